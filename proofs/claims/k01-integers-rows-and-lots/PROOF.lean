import PyProof.Rows.All
import Wide.All
import OpenK.AllK
import Wide.FinOn
import HandS.ForMost
import HandS.ForExc
import HandS.Evl
import HandS.IsInst
import HandS.TupAny
import HandS.TupMul
import HandS.Style
import HandS.Deep
import HandS.Wide
import HandS.Flow
import HandS.RaiseMore
import HandS.More
import HandS.Defaults
import HandS.WordsExc
import HandS.CallSlots
import HandS.MakeKw
import HandS.MakeKwOnly
import HandS.Zip
import HandS.Rev
import HandS.Dict
import PySem.Challenge.RW_roundsheld_k01_integers_rows_and_lots
set_option Elab.async false
set_option linter.all false
set_option maxRecDepth 100000
set_option maxHeartbeats 4000000
/-! VsA: values told as data (D), the relation of tracked values to data, environments of data, readings by functions on environments. -/
namespace Vs
open PySem PySem.Spec PyProof.Rows L2 Evl

/-- data: what a value tells, without addresses -/
inductive D where
  | non | bl (b : Bool) | int (i : Int) | str (x : Str) | scr (ns : List Int)
  | lst (xs : List D) | tup (xs : List D) | dic (kvs : List (Key × D)) | obj (c : Str) (fs : List (Str × D))
/-- what a slot holds: data that nobody changes any more; a list of the frame's own (k: the number of the parameter that brought it) -/
inductive T where
  | fz (d : D) | ol (k : Option Nat) (ds : List D)
abbrev Env := List (Option T)
/-- an exception of an own class, its fields -/
structure Xn where
  c : Str
  fs : List (Str × D)
inductive R (α : Type) where
  | ok (a : α) (env : Vs.Env) | exc (x : Xn) (env : Vs.Env) | no
abbrev M (α : Type) := Env → R α

section
variable (K : PySem.W.Frag) (cm : Str → Option Addr)
mutual
inductive Rp (G : Hp) : V → D → Prop
  | non : Rp G .non .non
  | bl (b : Bool) : Rp G (.bl b) (.bl b)
  | int (i : Int) : Rp G (.int i) (.int i)
  | str (x : Str) : Rp G (.str x) (.str x)
  | scr {a : Addr} {ns : List Int} : SqL K G a (ns.map V.int) → Rp G (.ref a) (.scr ns)
  | lst {a : Addr} {vs : List V} {ds : List D} : G a = some (.lst vs) → Rps G vs ds → Rp G (.ref a) (.lst ds)
  | tup {a : Addr} {vs : List V} {ds : List D} : SqT K G a vs → Rps G vs ds → Rp G (.ref a) (.tup ds)
  | dic {a : Addr} {ks : List (Key × V)} {ds : List (Key × D)} : G a = some (.dK ks) → ks.map (·.1) = ds.map (·.1) → Rps G (ks.map (·.2)) (ds.map (·.2)) → Rp G (.ref a) (.dic ds)
  | obj {a dx C : Addr} {c : Str} {fs : List (Str × V)} {ds : List (Str × D)} : cm c = some C → G a = some (.ins C dx fs) → G dx = some (.own a) → fs.map (·.1) = ds.map (·.1) → Rps G (fs.map (·.2)) (ds.map (·.2)) → Rp G (.ref a) (.obj c ds)
inductive Rps (G : Hp) : List V → List D → Prop
  | nil : Rps G [] []
  | cons {v : V} {vs : List V} {d : D} {ds : List D} : Rp G v d → Rps G vs ds → Rps G (v :: vs) (d :: ds)
end
end
section
variable {K : PySem.W.Frag} {cm : Str → Option Addr} {G G' : Hp}
theorem Rp.mono (e : Ex G G') {v : V} {d : D} (h : Rp K cm G v d) : Rp K cm G' v d :=
  Rp.rec (motive_1 := fun v d _ => Rp K cm G' v d) (motive_2 := fun vs ds _ => Rps K cm G' vs ds) .non .bl .int .str (fun h1 => .scr (ex_l e h1)) (fun h1 _ i => .lst (e _ _ h1) i) (fun h1 _ i => .tup (ex_t e h1) i) (fun h1 h2 _ i => .dic (e _ _ h1) h2 i)
    (fun h0 h1 h2 h3 _ i => .obj h0 (e _ _ h1) (e _ _ h2) h3 i) .nil (fun _ _ i j => .cons i j) h
theorem Rps.mono (e : Ex G G') {vs : List V} {ds : List D} (h : Rps K cm G vs ds) : Rps K cm G' vs ds :=
  Rps.rec (motive_1 := fun v d _ => Rp K cm G' v d) (motive_2 := fun vs ds _ => Rps K cm G' vs ds) .non .bl .int .str (fun h1 => .scr (ex_l e h1)) (fun h1 _ i => .lst (e _ _ h1) i) (fun h1 _ i => .tup (ex_t e h1) i) (fun h1 h2 _ i => .dic (e _ _ h1) h2 i)
    (fun h0 h1 h2 h3 _ i => .obj h0 (e _ _ h1) (e _ _ h2) h3 i) .nil (fun _ _ i j => .cons i j) h
theorem Rps.length {vs : List V} {ds : List D} (h : Rps K cm G vs ds) : vs.length = ds.length := by
  induction ds generalizing vs with
  | nil => cases h; rfl
  | cons d ds ih => cases h with | cons _ h2 => simp [ih h2]
theorem Rps.get {vs : List V} {ds : List D} (h : Rps K cm G vs ds) : ∀ {i : Nat} {d : D}, ds[i]? = some d → ∃ v, vs[i]? = some v ∧ Rp K cm G v d := by
  induction ds generalizing vs with
  | nil => intro i d e; simp at e
  | cons d0 ds ih =>
    intro i d e
    cases h with
    | cons h1 h2 =>
      cases i with
      | zero => simp at e; subst e; exact ⟨_, by simp, h1⟩
      | succ i =>
        obtain ⟨v, e1, r⟩ := ih h2 (i := i) (d := d) (by simpa using e)
        exact ⟨v, by simpa using e1, r⟩
theorem Rps.getV {vs : List V} {ds : List D} (h : Rps K cm G vs ds) : ∀ {i : Nat} {v : V}, vs[i]? = some v → ∃ d, ds[i]? = some d ∧ Rp K cm G v d := by
  induction ds generalizing vs with
  | nil => intro i d e; cases h; simp at e
  | cons d0 ds ih =>
    intro i v e
    cases h with
    | cons h1 h2 =>
      cases i with
      | zero => simp at e; subst e; exact ⟨_, by simp, h1⟩
      | succ i =>
        obtain ⟨d, e1, r⟩ := ih h2 (i := i) (v := v) (by simpa using e)
        exact ⟨d, by simpa using e1, r⟩
theorem Rps.append {vs ws : List V} {ds es : List D} (h : Rps K cm G vs ds) (h' : Rps K cm G ws es) : Rps K cm G (vs ++ ws) (ds ++ es) := by
  induction ds generalizing vs with
  | nil => cases h; exact h'
  | cons d ds ih => cases h with | cons h1 h2 => exact .cons h1 (ih h2)
theorem Rps.set {vs : List V} {ds : List D} (h : Rps K cm G vs ds) {v : V} {d : D} (r : Rp K cm G v d) (i : Nat) : Rps K cm G (vs.set i v) (ds.set i d) := by
  induction ds generalizing vs i with
  | nil => cases h; exact .nil
  | cons d0 ds ih =>
    cases h with
    | cons h1 h2 =>
      cases i with
      | zero => exact .cons r h2
      | succ i => exact .cons h1 (ih h2 i)
theorem Rps.take {vs : List V} {ds : List D} (h : Rps K cm G vs ds) (n : Nat) : Rps K cm G (vs.take n) (ds.take n) := by
  induction ds generalizing vs n with
  | nil => cases h; simp; exact .nil
  | cons d0 ds ih =>
    cases h with
    | cons h1 h2 =>
      cases n with
      | zero => exact .nil
      | succ n => exact .cons h1 (ih h2 n)
theorem Rps.drop {vs : List V} {ds : List D} (h : Rps K cm G vs ds) (n : Nat) : Rps K cm G (vs.drop n) (ds.drop n) := by
  induction ds generalizing vs n with
  | nil => cases h; simp; exact .nil
  | cons d0 ds ih =>
    cases n with
    | zero => exact h
    | succ n => cases h with | cons h1 h2 => exact ih h2 n
theorem Rps.reverse {vs : List V} {ds : List D} (h : Rps K cm G vs ds) : Rps K cm G vs.reverse ds.reverse := by
  induction ds generalizing vs with
  | nil => cases h; exact .nil
  | cons d0 ds ih =>
    cases h with
    | cons h1 h2 => simp only [List.reverse_cons]; exact (ih h2).append (.cons h1 .nil)
theorem Rps.ints {vs : List V} : ∀ {ns : List Int}, Rps K cm G vs (ns.map D.int) → vs = ns.map V.int
  | [], h => by cases h; rfl
  | n :: ns, h => by
    cases h with
    | cons h1 h2 => cases h1; rw [Rps.ints h2]; rfl
theorem Rps.of_ints : ∀ (ns : List Int), Rps K cm G (ns.map V.int) (ns.map D.int)
  | [] => .nil
  | n :: ns => .cons (.int n) (Rps.of_ints ns)
end

/-- what is fixed while a body runs: objects of others that it leaves alone, the lists that its parameters brought, the wish about exceptions -/
structure Base where
  prot : Addr → Prop
  H0 : Hp
  ins : Nat → Option Addr
  W : WX

section
variable (K : PySem.W.Frag) (cm : Str → Option Addr)
def TRel (B : Base) (G H : Hp) (v : V) : T → Prop
  | .fz d => Rp K cm G v d
  | .ol k ds => ∃ a vs, v = .ref a ∧ H a = some (.lst vs) ∧ G a = none ∧ Rps K cm G vs ds ∧ ¬ B.prot a ∧ ∀ j, k = some j → B.ins j = some a
structure Rel (B : Base) (G H : Hp) (σ : L2.St) (env : Vs.Env) : Prop where
  ex : Ex G H
  len : σ.length = env.length
  sl : ∀ (i : Nat) (t : T), env[i]? = some (some t) → ∃ v, σ[i]? = some (some v) ∧ TRel K cm B G H v t
  ap : ∀ (i j : Nat) (a : Addr) (k : Option Nat) (ds : List D) (k' : Option Nat) (ds' : List D), env[i]? = some (some (.ol k ds)) → env[j]? = some (some (.ol k' ds')) → σ[i]? = some (some (.ref a)) → σ[j]? = some (some (.ref a)) → i = j
  pr : ∀ p, B.prot p → G p = none ∧ H p = B.H0 p ∧ B.H0 p ≠ none
/-- an exception as it lies -/
def XRel (G H : Hp) (cls : Value) (dd : Option Addr) (x : Xn) : Prop :=
  ∃ C d fs, cm x.c = some C ∧ cls = .ref C ∧ dd = some d ∧ H d = some (.xd fs) ∧ fs.map (·.1) = x.fs.map (·.1) ∧ Rps K cm G (fs.map (·.2)) (x.fs.map (·.2))
end

section
variable {K : PySem.W.Frag} {cm : Str → Option Addr} {B : Base} {G G' H H' : Hp} {σ : L2.St} {env : Vs.Env}
theorem Rel.free (r : Rel K cm B G H σ env) {p : Addr} (h : H p = none) : G p = none := fresh_back r.ex h
theorem Rel.nprot (r : Rel K cm B G H σ env) {p : Addr} (h : H p = none) : ¬ B.prot p := fun q => by
  obtain ⟨_, e, n⟩ := r.pr p q
  rw [h] at e
  exact n e.symm
theorem ex_upd2 {p : Addr} {o : HO} (e : Ex G H) : Ex (upd G p o) (upd H p o) := fun a u h => by
  by_cases ha : a = p
  · subst ha; rw [upd_same] at h ⊢; exact h
  · rw [upd_ne ha] at h ⊢; exact e a u h
/-- a new object that nobody changes any more -/
theorem Rel.alloc (r : Rel K cm B G H σ env) {p : Addr} {o : HO} (h : H p = none) : Rel K cm B (upd G p o) (upd H p o) σ env ∧ Ex G (upd G p o) := by
  have hg := r.free h
  refine ⟨⟨ex_upd2 r.ex, r.len, fun i t e => ?_, r.ap, fun q hq => ?_⟩, Ex.new hg⟩
  · obtain ⟨v, e1, tr⟩ := r.sl i t e
    refine ⟨v, e1, ?_⟩
    cases t with
    | fz d => exact Rp.mono (Ex.new hg) tr
    | ol k ds =>
      obtain ⟨a, vs, rfl, ha, hga, rs, np, hk⟩ := tr
      have ne : a ≠ p := ne_of_none ha h
      exact ⟨a, vs, rfl, by rw [upd_ne ne]; exact ha, by rw [upd_ne ne]; exact hga, Rps.mono (Ex.new hg) rs, np, hk⟩
  · obtain ⟨h1, h2, h3⟩ := r.pr q hq
    have ne : q ≠ p := fun z => by subst z; exact r.nprot h hq
    exact ⟨by rw [upd_ne ne]; exact h1, by rw [upd_ne ne]; exact h2, h3⟩
/-- a new object that may change yet -/
theorem Rel.fresh (r : Rel K cm B G H σ env) {p : Addr} {o : HO} (h : H p = none) : Rel K cm B G (upd H p o) σ env := by
  refine ⟨r.ex.trans (Ex.new h), r.len, fun i t e => ?_, r.ap, fun q hq => ?_⟩
  · obtain ⟨v, e1, tr⟩ := r.sl i t e
    refine ⟨v, e1, ?_⟩
    cases t with
    | fz d => exact tr
    | ol k ds =>
      obtain ⟨a, vs, rfl, ha, hga, rs, np, hk⟩ := tr
      have ne : a ≠ p := ne_of_none ha h
      exact ⟨a, vs, rfl, by rw [upd_ne ne]; exact ha, hga, rs, np, hk⟩
  · obtain ⟨h1, h2, h3⟩ := r.pr q hq
    have ne : q ≠ p := fun z => by subst z; exact r.nprot h hq
    exact ⟨h1, by rw [upd_ne ne]; exact h2, h3⟩
theorem get_set {α : Type} {l : List α} {i j : Nat} {a b : α} (h : (l.set i a)[j]? = some b) : (j = i ∧ b = a ∧ i < l.length) ∨ (j ≠ i ∧ l[j]? = some b) := by
  by_cases e : i = j
  · subst e
    by_cases hl : i < l.length
    · rw [List.getElem?_set_self hl] at h; cases h; exact .inl ⟨rfl, rfl, hl⟩
    · rw [List.getElem?_eq_none (by simpa using hl)] at h; cases h
  · rw [List.getElem?_set_ne e] at h; exact .inr ⟨fun z => e z.symm, h⟩
/-- a slot takes data -/
theorem Rel.setFz (r : Rel K cm B G H σ env) {v : V} {d : D} (i : Nat) (h : Rp K cm G v d) : Rel K cm B G H (σ.set i (some v)) (env.set i (some (.fz d))) := by
  refine ⟨r.ex, by simp [r.len], fun j t e => ?_, fun j j' a k ds k' ds' e1 e2 e3 e4 => ?_, r.pr⟩
  · rcases get_set e with ⟨rfl, e1, hl⟩ | ⟨ne, e1⟩
    · cases e1
      exact ⟨v, by rw [List.getElem?_set_self (by rw [r.len]; exact hl)], h⟩
    · obtain ⟨u, e2, tr⟩ := r.sl j t e1
      exact ⟨u, by rw [List.getElem?_set_ne (Ne.symm ne)]; exact e2, tr⟩
  · rcases get_set e1 with ⟨rfl, z, _⟩ | ⟨ne, e1⟩
    · cases z
    · rcases get_set e2 with ⟨rfl, z, _⟩ | ⟨ne', e2⟩
      · cases z
      · rw [List.getElem?_set_ne (Ne.symm ne)] at e3
        rw [List.getElem?_set_ne (Ne.symm ne')] at e4
        exact r.ap j j' a k ds k' ds' e1 e2 e3 e4
/-- a slot takes a list of the frame's own -/
theorem Rel.setOl (r : Rel K cm B G H σ env) {a : Addr} {vs : List V} {ds : List D} (i : Nat) (ha : H a = some (.lst vs)) (hg : G a = none) (hs : Rps K cm G vs ds) (np : ¬ B.prot a)
    (na : ∀ (j : Nat) (k : Option Nat) (ds : List D), env[j]? = some (some (.ol k ds)) → σ[j]? = some (some (.ref a)) → j = i) : Rel K cm B G H (σ.set i (some (.ref a))) (env.set i (some (.ol none ds))) := by
  refine ⟨r.ex, by simp [r.len], fun j t e => ?_, fun j j' b k ds k' ds' e1 e2 e3 e4 => ?_, r.pr⟩
  · rcases get_set e with ⟨rfl, e1, hl⟩ | ⟨ne, e1⟩
    · cases e1
      exact ⟨.ref a, by rw [List.getElem?_set_self (by rw [r.len]; exact hl)], a, vs, rfl, ha, hg, hs, np, fun _ z => nomatch z⟩
    · obtain ⟨u, e2, tr⟩ := r.sl j t e1
      exact ⟨u, by rw [List.getElem?_set_ne (Ne.symm ne)]; exact e2, tr⟩
  · rcases get_set e1 with ⟨rfl, z, hl⟩ | ⟨ne, e1⟩
    · rw [List.getElem?_set_self (by rw [r.len]; exact hl)] at e3
      cases e3
      rcases get_set e2 with ⟨rfl, z', _⟩ | ⟨ne', e2⟩
      · rfl
      · rw [List.getElem?_set_ne (Ne.symm ne')] at e4
        exact (na j' _ _ e2 e4).symm
    · rw [List.getElem?_set_ne (Ne.symm ne)] at e3
      rcases get_set e2 with ⟨z0, z', hl⟩ | ⟨ne', e2⟩
      · rw [z0, List.getElem?_set_self (by rw [r.len]; exact hl)] at e4
        cases e4
        exact (na j _ _ e1 e3).trans z0.symm
      · rw [List.getElem?_set_ne (Ne.symm ne')] at e4
        exact r.ap j j' b k ds k' ds' e1 e2 e3 e4
/-- an own list is written -/
theorem Rel.write (r : Rel K cm B G H σ env) {i : Nat} {k : Option Nat} {ds ds' : List D} {a : Addr} {vs' : List V} (e : env[i]? = some (some (.ol k ds))) (hi : σ[i]? = some (some (.ref a))) (hs : Rps K cm G vs' ds') :
    Rel K cm B G (upd H a (.lst vs')) σ (env.set i (some (.ol k ds'))) := by
  obtain ⟨v, e1, tr⟩ := r.sl i _ e
  rw [hi] at e1; cases e1
  obtain ⟨a', vs, z, ha, hga, rs, np, hk⟩ := tr
  cases z
  have hl : i < env.length := (List.getElem?_eq_some_iff.mp e).1
  refine ⟨fun b u q => ?_, by simp [r.len], fun j t e2 => ?_, fun j j' b k1 ds1 k2 ds2 e1 e2 e3 e4 => ?_, fun q hq => ?_⟩
  · have ne : b ≠ a := fun z => by subst z; rw [hga] at q; cases q
    rw [upd_ne ne]; exact r.ex b u q
  · rcases get_set e2 with ⟨rfl, e3, hl⟩ | ⟨ne, e3⟩
    · cases e3
      exact ⟨.ref a, hi, a, vs', rfl, upd_same, hga, hs, np, hk⟩
    · obtain ⟨u, e4, tr⟩ := r.sl j t e3
      refine ⟨u, e4, ?_⟩
      cases t with
      | fz d => exact tr
      | ol k2 ds2 =>
        obtain ⟨b, vs2, rfl, hb, hgb, rs2, np2, hk2⟩ := tr
        have nb : b ≠ a := fun z => by
          subst z
          exact ne (r.ap j i b _ _ _ _ e3 e e4 hi)
        exact ⟨b, vs2, rfl, by rw [upd_ne nb]; exact hb, hgb, rs2, np2, hk2⟩
  · have old : ∀ {j : Nat} {k1 : Option Nat} {ds1 : List D}, (env.set i (some (.ol k ds')))[j]? = some (some (.ol k1 ds1)) → ∃ k0 ds0, env[j]? = some (some (.ol k0 ds0)) := fun {j k1 ds1} q => by
      rcases get_set q with ⟨rfl, _, _⟩ | ⟨_, q⟩
      · exact ⟨_, _, e⟩
      · exact ⟨_, _, q⟩
    obtain ⟨_, _, q1⟩ := old e1
    obtain ⟨_, _, q2⟩ := old e2
    exact r.ap j j' b _ _ _ _ q1 q2 e3 e4
  · obtain ⟨h1, h2, h3⟩ := r.pr q hq
    have ne : q ≠ a := fun z => by subst z; exact np hq
    exact ⟨h1, by rw [upd_ne ne]; exact h2, h3⟩
/-- an own list is laid down: from now on nobody changes it -/
theorem Rel.freeze (r : Rel K cm B G H σ env) {i : Nat} {k : Option Nat} {ds : List D} (e : env[i]? = some (some (.ol k ds))) : ∃ G', Ex G G' ∧ Rel K cm B G' H σ (env.set i (some (.fz (.lst ds)))) := by
  obtain ⟨v, hi, tr⟩ := r.sl i _ e
  obtain ⟨a, vs, rfl, ha, hga, rs, np, hk⟩ := tr
  have hl : i < env.length := (List.getElem?_eq_some_iff.mp e).1
  have ex1 : Ex G (upd G a (.lst vs)) := Ex.new hga
  refine ⟨upd G a (.lst vs), ex1, fun b u q => ?_, by simp [r.len], fun j t e2 => ?_, fun j j' b k1 ds1 k2 ds2 e1 e2 e3 e4 => ?_, fun q hq => ?_⟩
  · by_cases hb : b = a
    · subst hb; rw [upd_same] at q; cases q; exact ha
    · rw [upd_ne hb] at q; exact r.ex b u q
  · rcases get_set e2 with ⟨rfl, e3, _⟩ | ⟨ne, e3⟩
    · cases e3
      exact ⟨.ref a, hi, .lst upd_same (Rps.mono ex1 rs)⟩
    · obtain ⟨u, e4, tr⟩ := r.sl j t e3
      refine ⟨u, e4, ?_⟩
      cases t with
      | fz d => exact Rp.mono ex1 tr
      | ol k2 ds2 =>
        obtain ⟨b, vs2, rfl, hb, hgb, rs2, np2, hk2⟩ := tr
        have nb : b ≠ a := fun z => by
          subst z
          exact ne (r.ap j i b _ _ _ _ e3 e e4 hi)
        exact ⟨b, vs2, rfl, hb, by rw [upd_ne nb]; exact hgb, Rps.mono ex1 rs2, np2, hk2⟩
  · have old : ∀ {j : Nat} {k1 : Option Nat} {ds1 : List D}, (env.set i (some (.fz (.lst ds))))[j]? = some (some (.ol k1 ds1)) → env[j]? = some (some (.ol k1 ds1)) := fun {j k1 ds1} q => by
      rcases get_set q with ⟨rfl, z, _⟩ | ⟨_, q⟩
      · cases z
      · exact q
    exact r.ap j j' b _ _ _ _ (old e1) (old e2) e3 e4
  · obtain ⟨h1, h2, h3⟩ := r.pr q hq
    have ne : q ≠ a := fun z => by subst z; exact np hq
    exact ⟨by rw [upd_ne ne]; exact h1, h2, h3⟩
/-- slots forgotten -/
theorem Rel.forget (r : Rel K cm B G H σ env) {σ' : L2.St} {env' : Vs.Env} (hl : σ'.length = env'.length) (w : ∀ (i : Nat) (t : T), env'[i]? = some (some t) → env[i]? = some (some t) ∧ σ'[i]? = σ[i]?) : Rel K cm B G H σ' env' :=
  ⟨r.ex, hl, fun i t e => by
    obtain ⟨v, e1, tr⟩ := r.sl i t (w i t e).1
    exact ⟨v, (w i t e).2.trans e1, tr⟩, fun i j a k ds k' ds' e1 e2 e3 e4 => r.ap i j a k ds k' ds' (w _ _ e1).1 (w _ _ e2).1 ((w _ _ e1).2 ▸ e3) ((w _ _ e2).2 ▸ e4), r.pr⟩
end
end Vs

set_option Elab.async false
set_option linter.all false
set_option maxRecDepth 100000
set_option maxHeartbeats 4000000
/-! VsB: readings by functions on environments; expressions. -/
namespace Vs
open PySem PySem.Spec PyProof.Rows L2 Evl

def R.bind {α β : Type} (r : R α) (f : α → Vs.Env → R β) : R β := match r with
  | .ok a e => f a e
  | .exc x e => .exc x e
  | .no => .no
def R.opt {α : Type} (o : Option α) (env : Vs.Env) : R α := match o with
  | some a => .ok a env
  | none => .no
@[simp] theorem R.bind_ok {α β : Type} (a : α) (e : Vs.Env) (f : α → Vs.Env → R β) : (R.ok a e).bind f = f a e := rfl
@[simp] theorem R.bind_exc {α β : Type} (x : Xn) (e : Vs.Env) (f : α → Vs.Env → R β) : (R.exc x e).bind f = .exc x e := rfl
@[simp] theorem R.bind_no {α β : Type} (f : α → Vs.Env → R β) : (R.no : R α).bind f = .no := rfl
@[simp] theorem R.opt_some {α : Type} (a : α) (e : Vs.Env) : R.opt (some a) e = .ok a e := rfl
@[simp] theorem R.opt_none {α : Type} (e : Vs.Env) : R.opt (none : Option α) e = .no := rfl

section
variable (K : PySem.W.Frag) (cm : Str → Option Addr)
/-- what is wanted of a run's end: by data Y of a value b of the machine -/
def want {α β : Type} (Y : Hp → L2.St → β → α → Prop) (B : Base) (G : Hp) (σ : L2.St) (Q : β → Hp → Prop) : R α → Prop
  | .ok a env' => ∀ G' H' b, Ex G G' → Rel K cm B G' H' σ env' → Y G' σ b a → Q b H'
  | .exc x env' => ∀ G' H' cls dd, Ex G G' → Rel K cm B G' H' σ env' → XRel K cm G' H' cls dd x → B.W cls dd σ H'
  | .no => False
def tG {α β : Type} (Y : Hp → L2.St → β → α → Prop) (B : Base) (f : M α) : L2.St → Hp → (β → Hp → Prop) → Prop := fun σ H Q =>
  ∃ G env, Rel K cm B G H σ env ∧ want K cm Y B G σ Q (f env)
def YV : Hp → L2.St → V → D → Prop := fun G _ v d => Rp K cm G v d
end
def YB : Hp → L2.St → Bool → Bool → Prop := fun _ _ b a => b = a

section
variable {K : PySem.W.Frag} {cm : Str → Option Addr} {α β γ δ : Type} {Y : Hp → L2.St → β → α → Prop} {Y2 : Hp → L2.St → δ → γ → Prop} {B : Base} {G G1 H : Hp} {σ : L2.St} {env : Vs.Env}
theorem want.mono {Q : β → Hp → Prop} {r : R α} (e : Ex G G1) (h : want K cm Y B G σ Q r) : want K cm Y B G1 σ Q r := by
  cases r with
  | ok a env' => exact fun G' H' b e1 => h G' H' b (e.trans e1)
  | exc x env' => exact fun G' H' c d e1 => h G' H' c d (e.trans e1)
  | no => exact h
/-- one reading, then the rest -/
theorem want.bind {Q : δ → Hp → Prop} {Q1 : β → Hp → Prop} {f : M α} {k : α → Vs.Env → R γ} (r : Rel K cm B G H σ env) (h : want K cm Y2 B G σ Q ((f env).bind k))
    (hk : ∀ a env1 G1 H1 b, Ex G G1 → Rel K cm B G1 H1 σ env1 → Y G1 σ b a → want K cm Y2 B G1 σ Q (k a env1) → Q1 b H1) : tG K cm Y B f σ H Q1 := by
  refine ⟨G, env, r, ?_⟩
  cases e : f env with
  | ok a env1 =>
    rw [e] at h
    exact fun G1 H1 b e1 r1 y => hk a env1 G1 H1 b e1 r1 y (want.mono e1 h)
  | exc x env1 =>
    rw [e] at h
    exact h
  | no =>
    rw [e] at h
    exact h
end

theorem _root_.L2.PE.weak {X : Cx} {e : Expr} {t t' : TE} (h : PE X e t) (w : ∀ σ H Q, t' σ H Q → t σ H Q) : PE X e t' := ⟨fun pins s σ H Q I q => h.run pins s σ H Q I (w _ _ _ q)⟩
theorem _root_.L2.PT.weak {X : Cx} {e : Expr} {t t' : TT} (h : PT X e t) (w : ∀ σ H Q, t' σ H Q → t σ H Q) : PT X e t' := ⟨fun pins s σ H Q I q => h.run pins s σ H Q I (w _ _ _ q)⟩
theorem _root_.L2.PW.weak {X : Cx} {e : Expr} {t t' : TT} (h : PW X e t) (w : ∀ σ H Q, t' σ H Q → t σ H Q) : PW X e t' := ⟨fun wh pins s σ H Q I q => h.run wh pins s σ H Q I (w _ _ _ q)⟩
theorem _root_.L2.PA.weak {X : Cx} {e : List Expr} {t t' : TA} (h : PA X e t) (w : ∀ σ H Q, t' σ H Q → t σ H Q) : PA X e t' := ⟨fun ps pins s σ H Q I q => h.run ps pins s σ H Q I (w _ _ _ q)⟩
theorem _root_.L2.PS.weak {X : Cx} {e : Stmt} {t t' : TS} (h : PS X e t) (w : ∀ D σ H, t' D σ H → t D σ H) : PS X e t' := ⟨fun pins s σ H D I q => h.run pins s σ H D I (w _ _ _ q)⟩
theorem _root_.L2.PSs.weak {X : Cx} {e : List Stmt} {t t' : TS} (h : PSs X e t) (w : ∀ D σ H, t' D σ H → t D σ H) : PSs X e t' := ⟨fun pins s σ H D I q => h.run pins s σ H D I (w _ _ _ q)⟩

section
variable (cm : Str → Option Addr) (X : Cx)
/-- an expression gives the data of f -/
def CE (e : Expr) (f : M D) : Prop := ∀ B : Base, Takes X B.W → PE X e (tG X.K cm (YV X.K cm) B f)
def CT (e : Expr) (f : M Bool) : Prop := ∀ B : Base, Takes X B.W → PT X e (tG X.K cm YB B f)
def CW (e : Expr) (f : M Bool) : Prop := ∀ B : Base, Takes X B.W → PW X e (tG X.K cm YB B f)
/-- a two-place operation by data -/
def OpD (r : R2) (o : D → D → Option D) : Prop := ∀ (B : Base) (G H : Hp) (σ : L2.St) (env : Vs.Env) (v1 v2 : V) (d1 d2 d : D) (Q : VK), Rel X.K cm B G H σ env → Rp X.K cm G v1 d1 → Rp X.K cm G v2 d2 → o d1 d2 = some d →
  (∀ G' H' v, Ex G G' → Rel X.K cm B G' H' σ env → Rp X.K cm G' v d → Q v H') → r v1 v2 H Q
def UnD (r : V → Hp → VK → Prop) (o : D → Option D) : Prop := ∀ (B : Base) (G H : Hp) (σ : L2.St) (env : Vs.Env) (v1 : V) (d1 d : D) (Q : VK), Rel X.K cm B G H σ env → Rp X.K cm G v1 d1 → o d1 = some d →
  (∀ G' H' v, Ex G G' → Rel X.K cm B G' H' σ env → Rp X.K cm G' v d → Q v H') → r v1 H Q
/-- a call by data -/
def CaD (r : List V → Hp → VK → Prop) (o : List D → Option D) : Prop := ∀ (B : Base) (G H : Hp) (σ : L2.St) (env : Vs.Env) (vs : List V) (ds : List D) (d : D) (Q : VK), Rel X.K cm B G H σ env → Rps X.K cm G vs ds → o ds = some d →
  (∀ G' H' v, Ex G G' → Rel X.K cm B G' H' σ env → Rp X.K cm G' v d → Q v H') → r vs H Q
end

section
variable {cm : Str → Option Addr} {X : Cx} {a b e : Expr} {f g h : M D} {pos : Pos}
/-! ### names, constants -/
def eV (i : Nat) : M D := fun env => match env[i]? with
  | some (some (.fz d)) => .ok d env
  | _ => .no
theorem ce_v (i : Nat) {x : Str} (hN : X.N[i]? = some x := by rfl) (hv : Vis X.env.scope x := by first | exact Or.inl rfl | exact Or.inr (Or.inl rfl) | exact Or.inr (Or.inr rfl)) (hd : (x == ("__debug__" : Str)) = false := by decide)
    (hcd : (x == ("__classdict__" : Str)) = false := by decide) : CE cm X (.Name x pos) (eV i) := fun B tk => (pe_var hN hv hd hcd).weak fun σ H Q ⟨G, env, r, q⟩ => by
  unfold eV at q
  cases c : env[i]? with
  | none => rw [c] at q; exact q.elim
  | some o =>
    cases o with
    | none => rw [c] at q; exact q.elim
    | some t =>
      cases t with
      | ol k ds => rw [c] at q; exact q.elim
      | fz d =>
        rw [c] at q
        obtain ⟨v, e1, tr⟩ := r.sl i _ c
        exact ⟨v, e1, q G H v (Ex.refl G) r tr⟩
def eC (d : D) : M D := fun env => .ok d env
theorem ce_c {v : V} {d : D} (h : PE X e (tC v)) (hd : ∀ G, Rp X.K cm G v d) : CE cm X e (eC d) := fun B tk => h.weak fun σ H Q ⟨G, env, r, q⟩ => q G H v (Ex.refl G) r (hd G)
theorem ce_int {i : Int} {j} : CE cm X (.Constant (.int i) j pos) (eC (.int i)) := ce_c pe_int fun _ => .int i
theorem ce_bl {i : Bool} {j} : CE cm X (.Constant (.bool i) j pos) (eC (.bl i)) := ce_c pe_bl fun _ => .bl i
theorem ce_non {j} : CE cm X (.Constant .none j pos) (eC .non) := ce_c pe_non fun _ => .non
theorem ce_str {i : Str} {j} : CE cm X (.Constant (.str i) j pos) (eC (.str i)) := ce_c pe_str fun _ => .str i

/-! ### operations -/
def eBin (o : D → D → Option D) (f g : M D) : M D := fun env => (f env).bind fun a env1 => (g env1).bind fun b env2 => R.opt (o a b) env2
def eUn (o : D → Option D) (f : M D) : M D := fun env => (f env).bind fun a env1 => R.opt (o a) env1
theorem tOp_of {r : R2} {o : D → D → Option D} {B : Base} {σ : L2.St} {H : Hp} {Q : VK} (hr : OpD cm X r o) (q : tG X.K cm (YV X.K cm) B (eBin o f g) σ H Q) : tOp r (tG X.K cm (YV X.K cm) B f) (tG X.K cm (YV X.K cm) B g) σ H Q := by
  obtain ⟨G, env, r0, q⟩ := q
  refine want.bind r0 q fun d1 env1 G1 H1 v1 e1 r1 y1 q1 => want.bind r1 q1 fun d2 env2 G2 H2 v2 e2 r2 y2 q2 => ?_
  cases c : o d1 d2 with
  | none => rw [c] at q2; exact q2.elim
  | some d =>
    rw [c] at q2
    exact hr B G2 H2 σ env2 v1 v2 d1 d2 d Q r2 (Rp.mono e2 y1) y2 c q2
theorem ce_bin {op : Operator} {r : R2} {o : D → D → Option D} (ho : OpR X (binaryOp op) r) (hr : OpD cm X r o) (ha : CE cm X a f) (hb : CE cm X b g) : CE cm X (.BinOp a op b pos) (eBin o f g) :=
  fun B tk => (pe_op ho (ha B tk) (hb B tk)).weak fun σ H Q q => tOp_of hr q
theorem ce_un {op : UnaryOp} {r : V → Hp → VK → Prop} {o : D → Option D} (ho : UnR X (unaryOp op) r) (hr : UnD cm X r o) (ha : CE cm X a f) : CE cm X (.UnaryOp op a pos) (eUn o f) := fun B tk => (pe_un ho (ha B tk)).weak fun σ H Q ⟨G, env, r0, q⟩ => by
  refine want.bind r0 q fun d1 env1 G1 H1 v1 e1 r1 y1 q1 => ?_
  cases c : o d1 with
  | none => rw [c] at q1; exact q1.elim
  | some d =>
    rw [c] at q1
    exact hr B G1 H1 σ env1 v1 d1 d Q r1 y1 c q1
theorem ce_cmp {op : CmpOp} {r : R2} {o : D → D → Option D} (ho : OpR X (compareOp op) r) (hr : OpD cm X r o) (ha : CE cm X a f) (hb : CE cm X b g) (hm : behindInMarks op b = false) : CE cm X (.Compare a [op] [b] pos) (eBin o f g) :=
  fun B tk => (pe_cmpR ho (ha B tk) (hb B tk) hm).weak fun σ H Q q => tOp_of hr q
theorem ce_ix {r : R2} {o : D → D → Option D} (ho : IxR X r) (hr : OpD cm X r o) (ha : CE cm X a f) (hb : CE cm X b g) (hs : PlainIx b) : CE cm X (.Subscript a b pos) (eBin o f g) :=
  fun B tk => (pe_ix ho (ha B tk) (hb B tk) hs).weak fun σ H Q q => tOp_of hr q
/-- two rules: by the data -/
theorem OpD.or {r r' : R2} {o o' : D → D → Option D} (h : OpD cm X r o) (h' : OpD cm X r' o') : OpD cm X (fun x y H Q => r x y H Q ∨ r' x y H Q) (fun x y => (o x y).or (o' x y)) :=
  fun B G H σ env v1 v2 d1 d2 d Q r0 y1 y2 c q => by
    dsimp only at c
    cases e : o d1 d2 with
    | some z => rw [e] at c; exact .inl (h B G H σ env v1 v2 d1 d2 d Q r0 y1 y2 (e.trans c) q)
    | none => rw [e] at c; exact .inr (h' B G H σ env v1 v2 d1 d2 d Q r0 y1 y2 c q)
/-- whole numbers in, data without objects out -/
def oI (C : Int → Int → Bool) (z : Int → Int → D) : D → D → Option D
  | .int i, .int j => if C i j = true then some (z i j) else none
  | _, _ => none
theorem OpD.int {C : Int → Int → Prop} {c : Int → Int → Bool} {k : Int → Int → V} {z : Int → Int → D} (hc : ∀ i j, c i j = true → C i j) (hz : ∀ i j G, Rp X.K cm G (k i j) (z i j)) : OpD cm X (rI C k) (oI c z) :=
  fun B G H σ env v1 v2 d1 d2 d Q r y1 y2 e q => by
    cases y1 <;> try (cases e; done)
    cases y2 <;> try (cases e; done)
    rename_i i j
    have e : (if c i j = true then some (z i j) else none) = some d := e
    by_cases hh : c i j = true
    · rw [if_pos hh] at e
      cases e
      exact ⟨i, j, rfl, rfl, hc i j hh, q G H _ (Ex.refl G) r (hz i j G)⟩
    · rw [if_neg hh] at e
      cases e
theorem OpD.int0 {k : Int → Int → V} {z : Int → Int → D} (hz : ∀ i j G, Rp X.K cm G (k i j) (z i j)) : OpD cm X (rI0 k) (oI (fun _ _ => true) z) :=
  fun B G H σ env v1 v2 d1 d2 d Q r y1 y2 e q => by
    cases y1 <;> try (cases e; done)
    cases y2 <;> try (cases e; done)
    rename_i i j
    have e : (if true = true then some (z i j) else none) = some d := e
    rw [if_pos rfl] at e
    cases e
    exact ⟨i, j, rfl, rfl, q G H _ (Ex.refl G) r (hz i j G)⟩
end
end Vs

set_option Elab.async false
set_option linter.all false
set_option maxRecDepth 100000
set_option maxHeartbeats 4000000
/-! VsC: operations by data. -/
namespace Vs
open PySem PySem.Spec PyProof.Rows L2 Evl

/-! ### data as PyData -/
mutual
def pyOf : D → Option PyData
  | .non => some .none
  | .bl b => some (.bool b)
  | .int i => some (.int i)
  | .str x => some (.str x)
  | .lst xs => (pyOfs xs).map .list
  | .tup xs => (pyOfs xs).map .tuple
  | .scr ns => none
  | .dic _ => none
  | .obj _ _ => none
def pyOfs : List D → Option (List PyData)
  | [] => some []
  | d :: ds => (pyOf d).bind fun p => (pyOfs ds).map fun ps => p :: ps
end
section
variable {K : PySem.W.Frag} {cm : Str → Option Addr} {G H : Hp}
theorem dp_both (e : Ex G H) : (∀ v d, Rp K cm G v d → ∀ p, pyOf d = some p → Dp K H v p) := fun v d h =>
  Rp.rec (motive_1 := fun v d _ => ∀ p, pyOf d = some p → Dp K H v p) (motive_2 := fun vs ds _ => ∀ ps, pyOfs ds = some ps → DpAll K H vs ps)
    (fun p q => by simp only [pyOf, Option.some.injEq] at q; subst q; exact .non) (fun b p q => by simp only [pyOf, Option.some.injEq] at q; subst q; exact .bl b)
    (fun b p q => by simp only [pyOf, Option.some.injEq] at q; subst q; exact .int b) (fun b p q => by simp only [pyOf, Option.some.injEq] at q; subst q; exact .str b)
    (fun _ p q => by simp only [pyOf] at q; cases q)
    (fun h1 _ ih p q => by
      simp only [pyOf, Option.map_eq_some_iff] at q
      obtain ⟨ps, e1, rfl⟩ := q
      exact .lst (SqL.of (e _ _ h1)) (ih ps e1))
    (fun h1 _ ih p q => by
      simp only [pyOf, Option.map_eq_some_iff] at q
      obtain ⟨ps, e1, rfl⟩ := q
      exact .tup (ex_t e h1) (ih ps e1))
    (fun _ _ _ _ p q => by simp only [pyOf] at q; cases q) (fun _ _ _ _ _ _ p q => by simp only [pyOf] at q; cases q)
    (fun ps q => by simp only [pyOfs, Option.some.injEq] at q; subst q; exact .nil)
    (fun _ _ i1 i2 ps q => by
      simp only [pyOfs, Option.bind_eq_some_iff, Option.map_eq_some_iff] at q
      obtain ⟨p, e1, ps', e2, rfl⟩ := q
      exact .cons (i1 p e1) (i2 ps' e2)) h
end

/-! ### arithmetic and glueing -/
def oAdd : D → D → Option D
  | .int i, .int j => some (.int (i + j))
  | .int i, .bl b => some (.int (i + b2i b))
  | .str x, .str y => if x.length + y.length ≤ sizeLine then some (.str (x ++ y)) else none
  | .lst xs, .lst ys => if xs.length + ys.length ≤ sizeLine then some (.lst (xs ++ ys)) else none
  | .tup xs, .tup ys => if xs.length + ys.length ≤ sizeLine then some (.tup (xs ++ ys)) else none
  | _, _ => none
def oSub : D → D → Option D
  | .int i, .int j => some (.int (i - j))
  | _, _ => none
def mulOk (i j : Int) : Bool := decide ((-(2 ^ 64) < i ∧ i < 2 ^ 64) ∨ (-(2 ^ 64) < j ∧ j < 2 ^ 64)) || decide (i.natAbs.log2 + j.natAbs.log2 < 1000000)
def oMul : D → D → Option D
  | .int i, .int j => if mulOk i j = true then some (.int (i * j)) else none
  | .lst xs, .int k => if k < 2 ^ 31 ∧ -(2 ^ 31) < k ∧ xs.length * k.toNat ≤ sizeLine then some (.lst (List.replicate k.toNat xs).flatten) else none
  | .tup xs, .int k => if xs ≠ [] ∧ 2 ≤ k ∧ k ≤ 1000 ∧ xs.length ≤ 1000 then some (.tup (List.replicate k.toNat xs).flatten) else none
  | _, _ => none
def oFdiv : D → D → Option D
  | .int i, .int j => if 0 < j ∧ j < 1073741824 then some (.int (i / j)) else none
  | _, _ => none
def oMod : D → D → Option D
  | .int i, .int j => if 0 < j then some (.int (i % j)) else none
  | _, _ => none
def oPow : D → D → Option D
  | .int i, .int j => if 0 ≤ j ∧ j ≤ 1000000 ∧ i.natAbs < 2 ^ 64 then some (.int (i ^ j.toNat)) else none
  | _, _ => none
def oNeg : D → Option D
  | .int i => some (.int (-i))
  | _ => none
/-! ### comparisons -/
/-- two lists of different lengths -/
def lenD : D → D → Bool
  | .lst xs, .lst ys => xs.length != ys.length
  | _, _ => false
/-- two flat values of one kind -/
def flatEq : D → D → Option Bool
  | .non, .non => some true
  | .bl a, .bl b => some (decide (a = b))
  | .int a, .int b => some (decide (a = b))
  | .str a, .str b => some (decide (a = b))
  | _, _ => none
def oEq (x y : D) : Option D := if (flatEq x y).isSome = true then (flatEq x y).map D.bl else if lenD x y = true then some (.bl false) else (pyOf x).bind fun p => (pyOf y).bind fun q => if SeqAt.shaped p = true ∧ SeqAt.shaped q = true then some (.bl (PyData.eqv p q)) else none
def oNe (x y : D) : Option D := if (flatEq x y).isSome = true then (flatEq x y).map (fun k => D.bl (!k)) else if lenD x y = true then some (.bl true) else (pyOf x).bind fun p => (pyOf y).bind fun q => if SeqAt.shaped p = true ∧ SeqAt.shaped q = true then some (.bl (!PyData.eqv p q)) else none
def oLt : D → D → Option D
  | .int i, .int j => some (.bl (decide (i < j)))
  | _, _ => none
def oLe : D → D → Option D
  | .int i, .int j => some (.bl (decide (i ≤ j)))
  | _, _ => none
def oGt : D → D → Option D
  | .int i, .int j => some (.bl (decide (j < i)))
  | _, _ => none
def oGe : D → D → Option D
  | .int i, .int j => some (.bl (decide (j ≤ i)))
  | _, _ => none
def isNon : D → Bool
  | .non => true
  | _ => false
/-- x is None; of two truths -/
def oIs : D → D → Option D
  | d, .non => some (.bl (isNon d))
  | .bl a, .bl b => some (.bl (decide (a = b)))
  | _, _ => none
def oIsNot : D → D → Option D
  | d, .non => some (.bl (!isNon d))
  | .bl a, .bl b => some (.bl (!decide (a = b)))
  | _, _ => none
/-! ### places -/
def oIx : D → D → Option D
  | .lst xs, .int i => atI xs i
  | .tup xs, .int i => atI xs i
  | .str x, .int i => if x.length ≤ sizeLine then (atI x.cps.toList i).map fun c => .str ⟨#[c]⟩ else none
  | _, _ => none

section
variable {cm : Str → Option Addr} {X : Cx} {B : Base} {G H : Hp} {σ : L2.St} {env : Vs.Env}
theorem Rp.nonI {K : PySem.W.Frag} {v : V} (h : Rp K cm G v .non) : v = .non := by cases h; rfl
theorem isNon_iff {K : PySem.W.Frag} {v : V} {d : D} (h : Rp K cm G v d) : decide (v = .non) = isNon d := by
  cases h <;> simp [isNon]
theorem Rps.nilV {K : PySem.W.Frag} {vs : List V} (h : Rps K cm G vs []) : vs = [] := by cases h; rfl
theorem Rps.ne {K : PySem.W.Frag} {vs : List V} {ds : List D} (h : Rps K cm G vs ds) : vs ≠ [] ↔ ds ≠ [] := by
  cases h <;> simp
theorem Rps.flat {K : PySem.W.Frag} {vs : List V} {ds : List D} (h : Rps K cm G vs ds) : ∀ k : Nat, Rps K cm G (List.replicate k vs).flatten (List.replicate k ds).flatten
  | 0 => .nil
  | k + 1 => by
    rw [List.replicate_succ, List.replicate_succ, List.flatten_cons, List.flatten_cons]
    exact h.append (Rps.flat h k)
theorem Rps.at {K : PySem.W.Frag} {vs : List V} {ds : List D} (h : Rps K cm G vs ds) {i : Int} {d : D} (e : atI ds i = some d) : ∃ v, atI vs i = some v ∧ Rp K cm G v d := by
  unfold atI at e ⊢
  rw [h.length]
  cases c : ixN ds.length i with
  | none => rw [c] at e; cases e
  | some j =>
    rw [c] at e
    obtain ⟨v, e1, r⟩ := h.get (i := j) (d := d) e
    exact ⟨v, e1, r⟩

def rEqLen (K : PySem.W.Frag) (k : Bool) : R2 := fun x y H Q => ∃ a b xs ys, x = .ref a ∧ y = .ref b ∧ SqL K H a xs ∧ SqL K H b ys ∧ xs.length ≠ ys.length ∧ Q (.bl k) H
theorem op_eqLen (hu : X.A.units < cLine) : OpR X (compareOp .Eq) (rEqLen X.K false) := by
  intro pins s σ H x y v u Q I rx ry h
  obtain ⟨a, b, xs, ys, rfl, rfl, h1, h2, hn, q⟩ := h
  cases rx; cases ry
  obtain ⟨us, r1, p1, _⟩ := I.list h1
  obtain ⟨ws, r2, p2, _⟩ := I.list h2
  exact SeqAt.RcAt.lists_lengths p1.isList p2.isList (by simpa [bne_iff_ne, ← r1.length, ← r2.length] using hn) hu _ _ _ _ ⟨.bl _, H, I, rfl, q⟩
theorem op_neLen (hu : X.A.units < cLine) : OpR X (compareOp .NotEq) (rEqLen X.K true) := by
  intro pins s σ H x y v u Q I rx ry h
  obtain ⟨a, b, xs, ys, rfl, rfl, h1, h2, hn, q⟩ := h
  cases rx; cases ry
  obtain ⟨us, r1, p1, _⟩ := I.list h1
  obtain ⟨ws, r2, p2, _⟩ := I.list h2
  exact SeqAt.RcNeAt.lists_lengths p1.isList p2.isList (by simpa [bne_iff_ne, ← r1.length, ← r2.length] using hn) hu _ _ _ _ ⟨.bl _, H, I, rfl, q⟩
def rEqU (K : PySem.W.Frag) : R2 := fun x y H Q => rEqD K x y H Q ∨ rEqLen K false x y H Q ∨ rEq x y H Q
def rNeU (K : PySem.W.Frag) : R2 := fun x y H Q => rNeD K x y H Q ∨ rEqLen K true x y H Q ∨ rNe x y H Q
theorem op_eqU (hu : X.A.units + 64 < cLine) : OpR X (compareOp .Eq) (rEqU X.K) := (op_eqD hu).or ((op_eqLen (by omega)).or op_eq)
theorem op_neU (hu : X.A.units + 64 < cLine) : OpR X (compareOp .NotEq) (rNeU X.K) := (op_neD hu).or ((op_neLen (by omega)).or op_ne)
def rAddU (X : Cx) : R2 := fun x y H Q => rI0 (fun i j => .int (i + j)) x y H Q ∨ (fun x y H Q => ∃ i k, x = .int i ∧ y = .bl k ∧ Q (.int (i + b2i k)) H) x y H Q ∨
  (fun x y H Q => ∃ i j, x = .str i ∧ y = .str j ∧ i.length + j.length ≤ sizeLine ∧ Q (.str (i ++ j)) H) x y H Q ∨ rCat x y H Q ∨ rCatA X.K x y H Q
theorem op_addU : OpR X (binaryOp .Add) (rAddU X) := op_add.or (op_add_ib.or (op_add_str.or (op_cat.or op_catA)))
theorem opd_add : OpD cm X (rAddU X) oAdd := fun B G H σ env v1 v2 d1 d2 d Q r y1 y2 c q => by
  cases y1 <;> cases y2 <;> simp only [oAdd] at c <;> try (cases c; done)
  · cases c; exact .inr (.inl ⟨_, _, rfl, rfl, q G H _ (Ex.refl G) r (.int _)⟩)
  · cases c; exact .inl ⟨_, _, rfl, rfl, q G H _ (Ex.refl G) r (.int _)⟩
  · split at c
    · cases c; exact .inr (.inr (.inl ⟨_, _, rfl, rfl, by assumption, q G H _ (Ex.refl G) r (.str _)⟩))
    · cases c
  · rename_i a vs ds h1 hs b ws es h2 hs2
    split at c
    · cases c
      refine .inr (.inr (.inr (.inl ⟨a, b, vs, ws, rfl, rfl, r.ex _ _ h1, r.ex _ _ h2, by rw [hs.length, hs2.length]; assumption, fun p hp => ?_⟩)))
      obtain ⟨r1, e1⟩ := r.alloc (o := .lst (vs ++ ws)) hp
      exact q _ _ _ e1 r1 (.lst upd_same ((hs.append hs2).mono e1))
    · cases c
  · rename_i a vs ds h1 hs b ws es h2 hs2
    split at c
    · cases c
      refine .inr (.inr (.inr (.inr ⟨a, b, vs, ws, rfl, rfl, ex_t r.ex h1, ex_t r.ex h2, by rw [hs.length, hs2.length]; assumption, fun e => ?_, fun e e' => ?_, fun e e' p hp => ?_⟩)))
      · subst e; cases hs
        exact q G H _ (Ex.refl G) r (.tup h2 hs2)
      · subst e'; cases hs2
        rw [List.append_nil] at q
        exact q G H _ (Ex.refl G) r (.tup h1 hs)
      · obtain ⟨r1, e1⟩ := r.alloc (o := .tup (vs ++ ws)) hp
        exact q _ _ _ e1 r1 (.tup (st_of upd_same) ((hs.append hs2).mono e1))
    · cases c
theorem opd_sub : OpD cm X (rI0 fun i j => .int (i - j)) oSub := fun B G H σ env v1 v2 d1 d2 d Q r y1 y2 c q => by
  cases y1 <;> cases y2 <;> simp only [oSub] at c <;> try (cases c; done)
  cases c; exact ⟨_, _, rfl, rfl, q G H _ (Ex.refl G) r (.int _)⟩
def rMulU (X : Cx) : R2 := fun x y H Q => rI CMul (fun i j => .int (i * j)) x y H Q ∨ rI CMulW (fun i j => .int (i * j)) x y H Q ∨ rRep x y H Q ∨ rRepT X.K x y H Q
theorem op_mulU : OpR X (binaryOp .Mult) (rMulU X) := op_mul.or (op_mulW.or (op_rep.or op_repT))
theorem opd_mul : OpD cm X (rMulU X) oMul := fun B G H σ env v1 v2 d1 d2 d Q r y1 y2 c q => by
  cases y1 <;> cases y2 <;> simp only [oMul] at c <;> try (cases c; done)
  · split at c
    · rename_i i j hh
      cases c
      unfold mulOk at hh
      rw [Bool.or_eq_true, decide_eq_true_eq, decide_eq_true_eq] at hh
      rcases hh with hh | hh
      · exact .inl ⟨i, j, rfl, rfl, hh, q G H _ (Ex.refl G) r (.int _)⟩
      · exact .inr (.inl ⟨i, j, rfl, rfl, hh, q G H _ (Ex.refl G) r (.int _)⟩)
    · cases c
  · rename_i a vs ds h1 hs k
    split at c
    · rename_i hh
      cases c
      refine .inr (.inr (.inl ⟨a, k, vs, rfl, rfl, r.ex _ _ h1, by omega, by omega, by rw [hs.length]; exact hh.2.2, fun p hp => ?_⟩))
      obtain ⟨r1, e1⟩ := r.alloc (o := .lst (List.replicate k.toNat vs).flatten) hp
      exact q _ _ _ e1 r1 (.lst upd_same ((hs.flat k.toNat).mono e1))
    · cases c
  · rename_i a vs ds h1 hs k
    split at c
    · rename_i hh
      cases c
      refine .inr (.inr (.inr ⟨a, k, vs, rfl, rfl, ex_t r.ex h1, hs.ne.mpr hh.1, hh.2.1, hh.2.2.1, by rw [hs.length]; exact hh.2.2.2, fun p hp => ?_⟩))
      obtain ⟨r1, e1⟩ := r.alloc (o := .tup (List.replicate k.toNat vs).flatten) hp
      exact q _ _ _ e1 r1 (.tup (st_of upd_same) ((hs.flat k.toNat).mono e1))
    · cases c
theorem opd_fdiv : OpD cm X (rI CDiv fun i j => .int (i / j)) oFdiv := fun B G H σ env v1 v2 d1 d2 d Q r y1 y2 c q => by
  cases y1 <;> cases y2 <;> simp only [oFdiv] at c <;> try (cases c; done)
  split at c
  · cases c; exact ⟨_, _, rfl, rfl, by assumption, q G H _ (Ex.refl G) r (.int _)⟩
  · cases c
theorem opd_mod : OpD cm X (rI (fun _ j => 0 < j) fun i j => .int (i % j)) oMod := fun B G H σ env v1 v2 d1 d2 d Q r y1 y2 c q => by
  cases y1 <;> cases y2 <;> simp only [oMod] at c <;> try (cases c; done)
  split at c
  · cases c; exact ⟨_, _, rfl, rfl, by assumption, q G H _ (Ex.refl G) r (.int _)⟩
  · cases c
theorem opd_pow : OpD cm X (rI CPow fun i j => .int (i ^ j.toNat)) oPow := fun B G H σ env v1 v2 d1 d2 d Q r y1 y2 c q => by
  cases y1 <;> cases y2 <;> simp only [oPow] at c <;> try (cases c; done)
  split at c
  · cases c; exact ⟨_, _, rfl, rfl, by assumption, q G H _ (Ex.refl G) r (.int _)⟩
  · cases c
theorem und_neg : UnD cm X (rU fun i => .int (-i)) oNeg := fun B G H σ env v1 d1 d Q r y1 c q => by
  cases y1 <;> simp only [oNeg] at c <;> try (cases c; done)
  cases c; exact ⟨_, rfl, q G H _ (Ex.refl G) r (.int _)⟩
theorem flat_of {K : PySem.W.Frag} {v1 v2 : V} {d1 d2 : D} {k : Bool} (y1 : Rp K cm G v1 d1) (y2 : Rp K cm G v2 d2) (h : flatEq d1 d2 = some k) : scal v1 v2 = true ∧ decide (v1 = v2) = k := by
  cases y1 <;> cases y2 <;> simp [flatEq] at h <;> subst h <;> exact ⟨rfl, by simp⟩
theorem lenD_of {d1 d2 : D} (h : lenD d1 d2 = true) : ∃ xs ys, d1 = .lst xs ∧ d2 = .lst ys ∧ xs.length ≠ ys.length := by
  cases d1 <;> cases d2 <;> simp [lenD] at h
  exact ⟨_, _, rfl, rfl, h⟩
theorem opd_eq : OpD cm X (rEqU X.K) oEq := fun B G H σ env v1 v2 d1 d2 d Q r y1 y2 c q => by
  unfold oEq at c
  split at c
  · obtain ⟨k, hk⟩ := Option.isSome_iff_exists.mp (by assumption)
    obtain ⟨f1, f2⟩ := flat_of y1 y2 hk
    rw [hk] at c
    cases c
    exact .inr (.inr ⟨f1, q G H _ (Ex.refl G) r (by rw [f2]; exact .bl _)⟩)
  split at c
  · rename_i hl
    obtain ⟨xs, ys, rfl, rfl, hn⟩ := lenD_of hl
    cases c
    cases y1 with | lst g1 h1 => cases y2 with | lst g2 h2 =>
      exact .inr (.inl ⟨_, _, _, _, rfl, rfl, SqL.of (r.ex _ _ g1), SqL.of (r.ex _ _ g2), by rw [h1.length, h2.length]; exact hn, q G H _ (Ex.refl G) r (.bl _)⟩)
  simp only [Option.bind_eq_some_iff] at c
  obtain ⟨p, e1, p', e2, c⟩ := c
  split at c
  · rename_i hh
    cases c
    exact .inl ⟨p, p', dp_both r.ex _ _ y1 p e1, dp_both r.ex _ _ y2 p' e2, hh.1, hh.2, q G H _ (Ex.refl G) r (.bl _)⟩
  · cases c
theorem opd_ne : OpD cm X (rNeU X.K) oNe := fun B G H σ env v1 v2 d1 d2 d Q r y1 y2 c q => by
  unfold oNe at c
  split at c
  · obtain ⟨k, hk⟩ := Option.isSome_iff_exists.mp (by assumption)
    obtain ⟨f1, f2⟩ := flat_of y1 y2 hk
    rw [hk] at c
    cases c
    exact .inr (.inr ⟨f1, q G H _ (Ex.refl G) r (by rw [f2]; exact .bl _)⟩)
  split at c
  · rename_i hl
    obtain ⟨xs, ys, rfl, rfl, hn⟩ := lenD_of hl
    cases c
    cases y1 with | lst g1 h1 => cases y2 with | lst g2 h2 =>
      exact .inr (.inl ⟨_, _, _, _, rfl, rfl, SqL.of (r.ex _ _ g1), SqL.of (r.ex _ _ g2), by rw [h1.length, h2.length]; exact hn, q G H _ (Ex.refl G) r (.bl _)⟩)
  simp only [Option.bind_eq_some_iff] at c
  obtain ⟨p, e1, p', e2, c⟩ := c
  split at c
  · rename_i hh
    cases c
    exact .inl ⟨p, p', dp_both r.ex _ _ y1 p e1, dp_both r.ex _ _ y2 p' e2, hh.1, hh.2, q G H _ (Ex.refl G) r (.bl _)⟩
  · cases c
theorem opd_lt : OpD cm X (rI0 fun i j => .bl (decide (i < j))) oLt := fun B G H σ env v1 v2 d1 d2 d Q r y1 y2 c q => by
  cases y1 <;> cases y2 <;> simp only [oLt] at c <;> try (cases c; done)
  cases c; exact ⟨_, _, rfl, rfl, q G H _ (Ex.refl G) r (.bl _)⟩
theorem opd_le : OpD cm X (rI0 fun i j => .bl (decide (i ≤ j))) oLe := fun B G H σ env v1 v2 d1 d2 d Q r y1 y2 c q => by
  cases y1 <;> cases y2 <;> simp only [oLe] at c <;> try (cases c; done)
  cases c; exact ⟨_, _, rfl, rfl, q G H _ (Ex.refl G) r (.bl _)⟩
theorem opd_gt : OpD cm X (rI0 fun i j => .bl (decide (j < i))) oGt := fun B G H σ env v1 v2 d1 d2 d Q r y1 y2 c q => by
  cases y1 <;> cases y2 <;> simp only [oGt] at c <;> try (cases c; done)
  cases c; exact ⟨_, _, rfl, rfl, q G H _ (Ex.refl G) r (.bl _)⟩
theorem opd_ge : OpD cm X (rI0 fun i j => .bl (decide (j ≤ i))) oGe := fun B G H σ env v1 v2 d1 d2 d Q r y1 y2 c q => by
  cases y1 <;> cases y2 <;> simp only [oGe] at c <;> try (cases c; done)
  cases c; exact ⟨_, _, rfl, rfl, q G H _ (Ex.refl G) r (.bl _)⟩
def rIsU : R2 := fun x y H Q => (fun x y H Q => y = .non ∧ Q (.bl (decide (x = .non))) H) x y H Q ∨ rIsB x y H Q
theorem op_isU : OpR X (compareOp .Is) rIsU := op_isN.or op_isBl
theorem opd_is : OpD cm X rIsU oIs := fun B G H σ env v1 v2 d1 d2 d Q r y1 y2 c q => by
  cases y2 with
  | non =>
    have e : oIs d1 .non = some (.bl (isNon d1)) := by cases d1 <;> rfl
    rw [e] at c
    cases c
    exact .inl ⟨rfl, by rw [isNon_iff y1]; exact q G H _ (Ex.refl G) r (.bl _)⟩
  | bl b =>
    cases y1 <;> simp only [oIs] at c <;> try (cases c; done)
    cases c
    exact .inr ⟨_, _, rfl, rfl, q G H _ (Ex.refl G) r (.bl _)⟩
  | _ => cases y1 <;> simp only [oIs] at c <;> cases c
def rIsNotU : R2 := fun x y H Q => (fun x y H Q => y = .non ∧ Q (.bl (!decide (x = .non))) H) x y H Q ∨ rNotB x y H Q
theorem op_isNotU : OpR X (compareOp .IsNot) rIsNotU := op_notN.or op_notBl
theorem opd_isNot : OpD cm X rIsNotU oIsNot := fun B G H σ env v1 v2 d1 d2 d Q r y1 y2 c q => by
  cases y2 with
  | non =>
    have e : oIsNot d1 .non = some (.bl (!isNon d1)) := by cases d1 <;> rfl
    rw [e] at c
    cases c
    exact .inl ⟨rfl, by rw [isNon_iff y1]; exact q G H _ (Ex.refl G) r (.bl _)⟩
  | bl b =>
    cases y1 <;> simp only [oIsNot] at c <;> try (cases c; done)
    cases c
    exact .inr ⟨_, _, rfl, rfl, q G H _ (Ex.refl G) r (.bl _)⟩
  | _ => cases y1 <;> simp only [oIsNot] at c <;> cases c
theorem opd_ix : OpD cm X (rIx X.K) oIx := fun B G H σ env v1 v2 d1 d2 d Q r y1 y2 c q => by
  cases y1 <;> cases y2 <;> simp only [oIx] at c <;> try (cases c; done)
  · split at c
    · rename_i i hh
      simp only [Option.map_eq_some_iff] at c
      obtain ⟨z, e1, rfl⟩ := c
      exact .inr (.inr ⟨_, _, z, rfl, rfl, by assumption, e1, q G H _ (Ex.refl G) r (.str _)⟩)
    · cases c
  · rename_i a vs ds h1 hs i
    obtain ⟨v, e1, y⟩ := hs.at c
    exact .inl ⟨a, vs, i, v, rfl, rfl, SqL.of (r.ex _ _ h1), e1, q G H _ (Ex.refl G) r y⟩
  · rename_i a vs ds h1 hs i
    obtain ⟨v, e1, y⟩ := hs.at c
    exact .inr (.inl ⟨a, vs, i, v, rfl, rfl, ex_t r.ex h1, e1, q G H _ (Ex.refl G) r y⟩)
end
end Vs

set_option Elab.async false
set_option linter.all false
set_option maxRecDepth 100000
set_option maxHeartbeats 4000000
/-! VsD: tests, argument lists, displays, slices, calls of built-ins. -/
namespace Vs
open PySem PySem.Spec PyProof.Rows L2 Evl

def oTru : D → Option Bool
  | .non => some false
  | .bl b => some b
  | .int i => some (i != 0)
  | .str x => if x.length ≤ sizeLine then some ((x.length : Int) != 0) else none
  | .lst xs => some (!xs.isEmpty)
  | .tup xs => some (!xs.isEmpty)
  | .dic kvs => some (!kvs.isEmpty)
  | .scr _ => none
  | .obj _ _ => none
def oBl : D → Option Bool
  | .bl b => some b
  | _ => none

section
variable {cm : Str → Option Addr} {X : Cx} {B : Base} {G H : Hp} {σ : L2.St} {env : Vs.Env} {a b c e : Expr} {es rest : List Expr} {f g h : M D} {u w : M Bool} {pos : Pos}
theorem Rps.isEmpty {K : PySem.W.Frag} {vs : List V} {ds : List D} (h : Rps K cm G vs ds) : vs.isEmpty = ds.isEmpty := by cases h <;> rfl
theorem tru_of {K : PySem.W.Frag} {v : V} {d : D} {k : Bool} (ex : Ex G H) (y : Rp K cm G v d) (q : oTru d = some k) : TruV K v H k := by
  cases y <;> simp only [oTru] at q <;> try (cases q; done)
  · cases q; rfl
  · cases q; rfl
  · cases q; rfl
  · split at q
    · cases q; exact ⟨by assumption, rfl⟩
    · cases q
  · rename_i h1 hs
    cases q
    exact .inl ⟨_, SqL.of (ex _ _ h1), by rw [hs.isEmpty]⟩
  · rename_i h1 hs
    cases q
    exact .inr (.inl ⟨_, ex_t ex h1, by rw [hs.isEmpty]⟩)
  · rename_i a ks ds h1 h2 h3
    cases q
    refine .inr (.inr ⟨_, ex _ _ h1, ?_⟩)
    have e : ks.length = ds.length := by simpa using congrArg List.length h2
    cases ks <;> cases ds <;> first | rfl | (simp at e)

/-! ### tests -/
def eTru (f : M D) : M Bool := fun env => (f env).bind fun d env1 => R.opt (oTru d) env1
def eBl (f : M D) : M Bool := fun env => (f env).bind fun d env1 => R.opt (oBl d) env1
theorem ct_tru (ha : CE cm X a f) (he : ∀ whole, isTrue a X.env whole = (do let v ← whole; standAt a.pos; holding [v] (truthy v)) := by intro _; rfl) : CT cm X a (eTru f) := fun B tk =>
  (pt_truth (ha B tk) he).weak fun σ H Q ⟨G, env, r, q⟩ => want.bind r q fun d env1 G1 H1 v e1 r1 y q1 => by
    cases c : oTru d with
    | none => rw [c] at q1; exact q1.elim
    | some k => rw [c] at q1; exact ⟨k, tru_of r1.ex y c, q1 G1 H1 k (Ex.refl G1) r1 rfl⟩
theorem ct_cmp {op : CmpOp} {r : R2} {o : D → D → Option D} (ho : OpR X (compareOp op) r) (hr : OpD cm X r o) (ha : CE cm X a f) (hb : CE cm X b g) (hm : behindInMarks op b = false) : CT cm X (.Compare a [op] [b] pos) (eBl (eBin o f g)) := fun B tk =>
  (pt_cmpR ho (ha B tk) (hb B tk) hm).weak fun σ H Q ⟨G, env, r0, q⟩ => by
    refine tOp_of hr ?_
    refine want.bind r0 q fun d env1 G1 H1 v e1 r1 y q1 => ?_
    cases c : oBl d with
    | none => rw [c] at q1; exact q1.elim
    | some k =>
      rw [c] at q1
      cases d <;> simp only [oBl] at c <;> try (cases c; done)
      cases c
      cases y
      exact ⟨_, rfl, q1 G1 H1 _ (Ex.refl G1) r1 rfl⟩
def eAnd (u w : M Bool) : M Bool := fun env => (u env).bind fun b env1 => if b = true then w env1 else .ok false env1
def eOr (u w : M Bool) : M Bool := fun env => (u env).bind fun b env1 => if b = true then .ok true env1 else w env1
def eNot (u : M Bool) : M Bool := fun env => (u env).bind fun b env1 => .ok (!b) env1
theorem ct_w (h : CW cm X e u) : CT cm X e u := fun B tk => (h B tk).pt
theorem cw_and1 (h : CT cm X a u) : CW cm X (.BoolOp .And [a] pos) u := fun B tk => pw_and1 (h B tk)
theorem cw_or1 (h : CT cm X a u) : CW cm X (.BoolOp .Or [a] pos) u := fun B tk => pw_or1 (h B tk)
theorem cw_and (h : CT cm X a u) (h2 : CW cm X (.BoolOp .And (b :: rest) pos) w) : CW cm X (.BoolOp .And (a :: b :: rest) pos) (eAnd u w) := fun B tk =>
  (pw_and (h B tk) (h2 B tk)).weak fun σ H Q ⟨G, env, r, q⟩ => want.bind r q fun k env1 G1 H1 v e1 r1 y q1 => by
    cases y
    cases k with
    | true => exact iteT ⟨G1, env1, r1, q1⟩
    | false => exact iteF (q1 G1 H1 false (Ex.refl G1) r1 rfl)
theorem cw_or (h : CT cm X a u) (h2 : CW cm X (.BoolOp .Or (b :: rest) pos) w) : CW cm X (.BoolOp .Or (a :: b :: rest) pos) (eOr u w) := fun B tk =>
  (pw_or (h B tk) (h2 B tk)).weak fun σ H Q ⟨G, env, r, q⟩ => want.bind r q fun k env1 G1 H1 v e1 r1 y q1 => by
    cases y
    cases k with
    | true => exact iteT (q1 G1 H1 true (Ex.refl G1) r1 rfl)
    | false => exact iteF ⟨G1, env1, r1, q1⟩
theorem ct_not (h : CT cm X a u) : CT cm X (.UnaryOp .Not a pos) (eNot u) := fun B tk => (pt_not (h B tk)).weak fun σ H Q ⟨G, env, r, q⟩ => want.bind r q fun k env1 G1 H1 v e1 r1 y q1 => by
  cases y
  exact q1 G1 H1 _ (Ex.refl G1) r1 rfl
/-! ### .. as values -/
def eAndV (f g : M D) : M D := fun env => (f env).bind fun d env1 => match oTru d with
  | some true => g env1
  | some false => .ok d env1
  | none => .no
def eOrV (f g : M D) : M D := fun env => (f env).bind fun d env1 => match oTru d with
  | some false => g env1
  | some true => .ok d env1
  | none => .no
def eNotV (f : M D) : M D := fun env => (f env).bind fun d env1 => (R.opt (oTru d) env1).bind fun k env2 => .ok (.bl (!k)) env2
theorem ce_one {op} (h : CE cm X a f) : CE cm X (.BoolOp op [a] pos) f := fun B tk => pe_one (h B tk)
theorem ce_and (h : CE cm X a f) (h2 : CE cm X (.BoolOp .And (b :: rest) pos) g) : CE cm X (.BoolOp .And (a :: b :: rest) pos) (eAndV f g) := fun B tk =>
  (pe_andT (h B tk) (h2 B tk)).weak fun σ H Q ⟨G, env, r, q⟩ => want.bind r q fun d env1 G1 H1 v e1 r1 y q1 => by
    cases c : oTru d with
    | none => rw [c] at q1; exact q1.elim
    | some k =>
      rw [c] at q1
      cases k with
      | true => exact ⟨true, tru_of r1.ex y c, iteT ⟨G1, env1, r1, q1⟩⟩
      | false => exact ⟨false, tru_of r1.ex y c, iteF (q1 G1 H1 v (Ex.refl G1) r1 y)⟩
theorem ce_or (h : CE cm X a f) (h2 : CE cm X (.BoolOp .Or (b :: rest) pos) g) : CE cm X (.BoolOp .Or (a :: b :: rest) pos) (eOrV f g) := fun B tk =>
  (pe_orT (h B tk) (h2 B tk)).weak fun σ H Q ⟨G, env, r, q⟩ => want.bind r q fun d env1 G1 H1 v e1 r1 y q1 => by
    cases c : oTru d with
    | none => rw [c] at q1; exact q1.elim
    | some k =>
      rw [c] at q1
      cases k with
      | true => exact ⟨true, tru_of r1.ex y c, iteT (q1 G1 H1 v (Ex.refl G1) r1 y)⟩
      | false => exact ⟨false, tru_of r1.ex y c, iteF ⟨G1, env1, r1, q1⟩⟩
theorem ce_not (h : CE cm X a f) : CE cm X (.UnaryOp .Not a pos) (eNotV f) := fun B tk => (pe_notT (h B tk)).weak fun σ H Q ⟨G, env, r, q⟩ => want.bind r q fun d env1 G1 H1 v e1 r1 y q1 => by
  cases c : oTru d with
  | none => rw [c] at q1; exact q1.elim
  | some k => rw [c] at q1; exact ⟨k, tru_of r1.ex y c, q1 G1 H1 _ (Ex.refl G1) r1 (.bl _)⟩
def eIf (u : M Bool) (f g : M D) : M D := fun env => (u env).bind fun b env1 => if b = true then f env1 else g env1
theorem ce_if (hc : CT cm X c u) (ha : CE cm X a f) (hb : CE cm X b g) : CE cm X (.IfExp c a b pos) (eIf u f g) := fun B tk => (pe_ifExp (hc B tk) (ha B tk) (hb B tk)).weak fun σ H Q ⟨G, env, r, q⟩ => want.bind r q fun k env1 G1 H1 v e1 r1 y q1 => by
  cases y
  cases k with
  | true => exact iteT ⟨G1, env1, r1, q1⟩
  | false => exact iteF ⟨G1, env1, r1, q1⟩
/-- a op1 b op2 c -/
def eChain (o o' : D → D → Option D) (f g h : M D) : M D := fun env => (f env).bind fun x env1 => (g env1).bind fun y env2 => (R.opt ((o x y).bind oBl) env2).bind fun k env3 =>
  if k = true then (h env3).bind fun z env4 => R.opt (o' y z) env4 else .ok (.bl false) env3
theorem ce_chain {op op' : CmpOp} {r r' : R2} {o o' : D → D → Option D} (ho : OpR X (compareOp op) r) (hr : OpD cm X r o) (ho' : OpR X (compareOp op') r') (hr' : OpD cm X r' o') (ha : CE cm X a f) (hb : CE cm X b g) (hc : CE cm X c h)
    (h1 : lastMarks [op, op'] [b, c] = false := by rfl) : CE cm X (.Compare a [op, op'] [b, c] pos) (eChain o o' f g h) := fun B tk => (pe_chain ho ho' (ha B tk) (hb B tk) (hc B tk) h1).weak fun σ H Q ⟨G, env, r0, q⟩ =>
  want.bind r0 q fun x env1 G1 H1 v1 e1 r1 y1 q1 => want.bind r1 q1 fun y env2 G2 H2 v2 e2 r2 y2 q2 => by
    cases cc : o x y with
    | none => rw [cc] at q2; exact q2.elim
    | some d =>
      rw [cc] at q2
      cases c3 : oBl d with
      | none => simp only [Option.bind_some, c3] at q2; exact q2.elim
      | some k =>
        simp only [Option.bind_some, c3, R.opt_some, R.bind_ok] at q2
        refine hr B G2 H2 σ env2 v1 v2 x y d _ r2 (Rp.mono e2 y1) y2 cc fun G3 H3 v3 e3 r3 y3 => ?_
        cases d <;> simp only [oBl] at c3 <;> try (cases c3; done)
        cases c3
        cases y3
        refine ⟨_, rfl, ?_⟩
        rename_i k
        cases k with
        | true =>
          refine iteT ?_
          refine want.bind r3 (want.mono e3 q2) fun z env4 G4 H4 v4 e4 r4 y4 q4 => ?_
          cases c5 : o' y z with
          | none => rw [c5] at q4; exact q4.elim
          | some dd =>
            rw [c5] at q4
            exact hr' B G4 H4 σ env4 v2 v4 y z dd Q r4 (Rp.mono (e3.trans e4) y2) y4 c5 q4
        | false => exact iteF (q2 G3 H3 _ e3 r3 (.bl _))
/-- .. as a test -/
theorem ct_chain {op op' : CmpOp} {r r' : R2} {o o' : D → D → Option D} (ho : OpR X (compareOp op) r) (hr : OpD cm X r o) (ho' : OpR X (compareOp op') r') (hr' : OpD cm X r' o') (ha : CE cm X a f) (hb : CE cm X b g) (hc : CE cm X c h)
    (h1 : lastMarks [op, op'] [b, c] = false := by rfl) : CT cm X (.Compare a [op, op'] [b, c] pos) (eBl (eChain o o' f g h)) := fun B tk => (pt_chain ho ho' (ha B tk) (hb B tk) (hc B tk) h1).weak fun σ H Q ⟨G, env, r0, q⟩ => by
  have hh := ce_chain (pos := pos) ho hr ho' hr' ha hb hc h1
  show tChain r r' _ _ _ σ H fun x H' => ∃ k, x = .bl k ∧ Q k H'
  have key : ∀ Q1 : VK, tG X.K cm (YV X.K cm) B (eChain o o' f g h) σ H Q1 → tChain r r' (tG X.K cm (YV X.K cm) B f) (tG X.K cm (YV X.K cm) B g) (tG X.K cm (YV X.K cm) B h) σ H Q1 := fun Q1 ⟨G, env, r0, q⟩ =>
    want.bind r0 q fun x env1 G1 H1 v1 e1 r1 y1 q1 => want.bind r1 q1 fun y env2 G2 H2 v2 e2 r2 y2 q2 => by
      cases cc : o x y with
      | none => rw [cc] at q2; exact q2.elim
      | some d =>
        rw [cc] at q2
        cases c3 : oBl d with
        | none => simp only [Option.bind_some, c3] at q2; exact q2.elim
        | some k =>
          simp only [Option.bind_some, c3, R.opt_some, R.bind_ok] at q2
          refine hr B G2 H2 σ env2 v1 v2 x y d _ r2 (Rp.mono e2 y1) y2 cc fun G3 H3 v3 e3 r3 y3 => ?_
          cases d <;> simp only [oBl] at c3 <;> try (cases c3; done)
          cases c3
          cases y3
          refine ⟨_, rfl, ?_⟩
          rename_i k
          cases k with
          | true =>
            refine iteT ?_
            refine want.bind r3 (want.mono e3 q2) fun z env4 G4 H4 v4 e4 r4 y4 q4 => ?_
            cases c5 : o' y z with
            | none => rw [c5] at q4; exact q4.elim
            | some dd =>
              rw [c5] at q4
              exact hr' B G4 H4 σ env4 v2 v4 y z dd Q1 r4 (Rp.mono (e3.trans e4) y2) y4 c5 q4
          | false => exact iteF (q2 G3 H3 _ e3 r3 (.bl _))
  refine key _ ?_
  refine want.bind r0 q fun d env1 G1 H1 v e1 r1 y q1 => ?_
  cases c : oBl d with
  | none => rw [c] at q1; exact q1.elim
  | some k =>
    rw [c] at q1
    cases d <;> simp only [oBl] at c <;> try (cases c; done)
    cases c
    cases y
    exact ⟨_, rfl, q1 G1 H1 _ (Ex.refl G1) r1 rfl⟩

/-! ### argument lists of data -/
def YD (K : PySem.W.Frag) (cm : Str → Option Addr) : Hp → L2.St → List V → List D → Prop := fun G _ vs ds => Rps K cm G vs ds
variable (cm X) in
def CD (es : List Expr) (f : M (List D)) : Prop := ∀ B : Base, Takes X B.W → PA X es (tG X.K cm (YD X.K cm) B f)
def eNil : M (List D) := fun env => .ok [] env
def eCons (f : M D) (g : M (List D)) : M (List D) := fun env => (f env).bind fun d env1 => (g env1).bind fun ds env2 => .ok (d :: ds) env2
theorem cd_nil : CD cm X [] eNil := fun B tk => pa_nil.weak fun σ H Q ⟨G, env, r, q⟩ => q G H [] (Ex.refl G) r .nil
theorem cd_cons {l : M (List D)} (h : CE cm X e f) (h2 : CD cm X es l) (hs : starEach (e :: es) X.env = (false, eval e X.env) :: starEach es X.env := by rfl) : CD cm X (e :: es) (eCons f l) := fun B tk => (pa_cons (h B tk) (h2 B tk) hs).weak fun σ H Q ⟨G, env, r, q⟩ =>
  want.bind r q fun d env1 G1 H1 v e1 r1 y1 q1 => want.bind r1 q1 fun ds env2 G2 H2 vs e2 r2 y2 q2 => q2 G2 H2 _ (Ex.refl G2) r2 (.cons (Rp.mono e2 y1) y2)
/-! ### displays -/
def eLst (l : M (List D)) : M D := fun env => (l env).bind fun ds env1 => if ds.length ≤ sizeLine then .ok (.lst ds) env1 else .no
def eTup (l : M (List D)) : M D := fun env => (l env).bind fun ds env1 => if ds.length ≤ sizeLine then .ok (.tup ds) env1 else .no
theorem ce_lst {l : M (List D)} (h : CD cm X es l) : CE cm X (.List es pos) (eLst l) := fun B tk => (pe_lst (h B tk)).weak fun σ H Q ⟨G, env, r, q⟩ => want.bind r q fun ds env1 G1 H1 vs e1 r1 y1 q1 => by
  by_cases hz : ds.length ≤ sizeLine
  · rw [if_pos hz] at q1
    refine ⟨by rw [Rps.length y1]; exact hz, fun p hp => ?_⟩
    obtain ⟨r2, e2⟩ := r1.alloc (o := .lst vs) hp
    exact q1 _ _ _ e2 r2 (.lst upd_same (Rps.mono e2 y1))
  · rw [if_neg hz] at q1; exact q1.elim
theorem ce_tup {l : M (List D)} {x1} (h : CD cm X es l) : CE cm X (.Tuple es x1 pos) (eTup l) := fun B tk => (pe_tup (h B tk)).weak fun σ H Q ⟨G, env, r, q⟩ => want.bind r q fun ds env1 G1 H1 vs e1 r1 y1 q1 => by
  by_cases hz : ds.length ≤ sizeLine
  · rw [if_pos hz] at q1
    refine ⟨by rw [Rps.length y1]; exact hz, fun p hp => ?_⟩
    obtain ⟨r2, e2⟩ := r1.alloc (o := .tup vs) hp
    exact q1 _ _ _ e2 r2 (.tup (st_of upd_same) (Rps.mono e2 y1))
  · rw [if_neg hz] at q1; exact q1.elim
/-! ### slices -/
def YO : Hp → L2.St → Option Int → Option Int → Prop := fun _ _ b a => b = a
variable (cm X) in
def CO (e : Option Expr) (f : M (Option Int)) : Prop := ∀ B : Base, Takes X B.W → PO X e (tG X.K cm YO B f)
theorem _root_.L2.PO.weak {X : Cx} {e : Option Expr} {t t' : TO} (h : PO X e t) (w : ∀ σ H Q, t' σ H Q → t σ H Q) : PO X e t' := ⟨fun pins s σ H Q I q => h.run pins s σ H Q I (w _ _ _ q)⟩
def eNoP : M (Option Int) := fun env => .ok none env
def eP (f : M D) : M (Option Int) := fun env => (f env).bind fun d env1 => match d with
  | .int i => .ok (some i) env1
  | _ => .no
theorem co_none : CO cm X none eNoP := fun B tk => po_none.weak fun σ H Q ⟨G, env, r, q⟩ => q G H none (Ex.refl G) r rfl
theorem co_some (h : CE cm X e f) : CO cm X (some e) (eP f) := fun B tk => (po_some (h B tk)).weak fun σ H Q ⟨G, env, r, q⟩ => want.bind r q fun d env1 G1 H1 v e1 r1 y1 q1 => by
  cases y1 <;> try (exact q1.elim)
  exact ⟨_, rfl, q1 G1 H1 _ (Ex.refl G1) r1 rfl⟩
variable (cm X) in
def SlD (r : V → Option Int → Option Int → Hp → VK → Prop) (o : D → Option Int → Option Int → Option D) : Prop := ∀ (B : Base) (G H : Hp) (σ : L2.St) (env : Vs.Env) (v1 : V) (d1 d : D) (lo hi : Option Int) (Q : VK), Rel X.K cm B G H σ env → Rp X.K cm G v1 d1 → o d1 lo hi = some d →
  (∀ G' H' v, Ex G G' → Rel X.K cm B G' H' σ env → Rp X.K cm G' v d → Q v H') → r v1 lo hi H Q
def cutD {α : Type} (xs : List α) (lo hi : Option Int) : List α := (xs.drop (HT.sIx xs.length 0 lo)).take (HT.sIx xs.length xs.length hi - HT.sIx xs.length 0 lo)
theorem Rps.cut {K : PySem.W.Frag} {vs : List V} {ds : List D} (h : Rps K cm G vs ds) (lo hi : Option Int) : Rps K cm G (cutV vs lo hi) (cutD ds lo hi) := by
  unfold cutV cutD
  rw [h.length]
  exact (h.drop _).take _
def oSl : D → Option Int → Option Int → Option D
  | .lst xs, lo, hi => some (.lst (cutD xs lo hi))
  | .tup xs, lo, hi => some (.tup (cutD xs lo hi))
  | .scr ns, lo, hi => some (.lst ((cutD ns lo hi).map D.int))
  | _, _, _ => none
theorem cut_whole {α : Type} {xs : List α} {lo hi : Option Int} (h : HT.sIx xs.length 0 lo = 0 ∧ HT.sIx xs.length xs.length hi = xs.length) : cutD xs lo hi = xs := by
  unfold cutD
  rw [h.1, h.2]
  simp
theorem cutD_map {α β : Type} (k : α → β) (xs : List α) (lo hi : Option Int) : cutD (xs.map k) lo hi = (cutD xs lo hi).map k := by
  unfold cutD
  rw [List.length_map, List.map_take, List.map_drop]
def rSlU (X : Cx) : V → Option Int → Option Int → Hp → VK → Prop := fun x lo hi H Q => rSlL X.K x lo hi H Q ∨ rSlA X.K x lo hi H Q
theorem sl_U : SlR X (rSlU X) := sl_list.or sl_tupA
theorem sld_U : SlD cm X (rSlU X) oSl := fun B G H σ env v1 d1 d lo hi Q r y1 c q => by
  cases y1 <;> simp only [oSl] at c <;> try (cases c; done)
  · rename_i a ns h1
    cases c
    refine .inl ⟨a, ns.map V.int, rfl, ex_l r.ex h1, fun p hp => ?_⟩
    obtain ⟨r1, e1⟩ := r.alloc (o := .lst (cutV (ns.map V.int) lo hi)) hp
    refine q _ _ _ e1 r1 (.lst upd_same ?_)
    have z : cutV (ns.map V.int) lo hi = (cutD ns lo hi).map V.int := cutD_map V.int ns lo hi
    rw [z]
    exact Rps.of_ints _
  · rename_i a vs ds h1 hs
    cases c
    refine .inl ⟨a, vs, rfl, SqL.of (r.ex _ _ h1), fun p hp => ?_⟩
    obtain ⟨r1, e1⟩ := r.alloc (o := .lst (cutV vs lo hi)) hp
    exact q _ _ _ e1 r1 (.lst upd_same ((hs.cut lo hi).mono e1))
  · rename_i a vs ds h1 hs
    cases c
    refine .inr ⟨a, vs, rfl, ex_t r.ex h1, fun hw => ?_, fun hw p hp => ?_⟩
    · rw [hs.length] at hw
      rw [cut_whole hw] at q
      exact q G H _ (Ex.refl G) r (.tup h1 hs)
    · obtain ⟨r1, e1⟩ := r.alloc (o := .tup (cutV vs lo hi)) hp
      exact q _ _ _ e1 r1 (.tup (st_of upd_same) ((hs.cut lo hi).mono e1))
def eSl (f : M D) (lo hi : M (Option Int)) : M D := fun env => (f env).bind fun d env1 => (lo env1).bind fun l env2 => (hi env2).bind fun u env3 => R.opt (oSl d l u) env3
theorem ce_sl {lo hi : Option Expr} {l u : M (Option Int)} {p2 : Pos} (he : CE cm X e f) (hl : CO cm X lo l) (hu : CO cm X hi u) : CE cm X (.Subscript e (.Slice lo hi none p2) pos) (eSl f l u) := fun B tk =>
  (pe_slice sl_U (he B tk) (hl B tk) (hu B tk)).weak fun σ H Q ⟨G, env, r, q⟩ => want.bind r q fun d env1 G1 H1 v e1 r1 y1 q1 => want.bind r1 q1 fun l env2 G2 H2 v2 e2 r2 y2 q2 => want.bind r2 q2 fun u env3 G3 H3 v3 e3 r3 y3 q3 => by
    cases y2
    cases y3
    cases c : oSl d l u with
    | none => rw [c] at q3; exact q3.elim
    | some dd =>
      rw [c] at q3
      exact sld_U B G3 H3 σ env3 v d dd l u Q r3 (Rp.mono (e2.trans e3) y1) c q3
/-- xs[::-1] -/
def eRev (f : M D) : M D := fun env => (f env).bind fun d env1 => match d with
  | .lst xs => .ok (.lst xs.reverse) env1
  | _ => .no
theorem ce_rev {k : Nat} {p1 p2 p3 : Pos} (he : CE cm X e f) : CE cm X (.Subscript e (.Slice none none (some (.UnaryOp .USub (.Constant (.int 1) k p1) p2)) p3) pos) (eRev f) := fun B tk =>
  (pe_revL (he B tk)).weak fun σ H Q ⟨G, env, r, q⟩ => want.bind r q fun d env1 G1 H1 v e1 r1 y1 q1 => by
    cases y1 <;> try (exact q1.elim)
    rename_i a vs ds h1 hs
    refine ⟨a, vs, rfl, SqL.of (r1.ex _ _ h1), fun p hp => ?_⟩
    obtain ⟨r2, e2⟩ := r1.alloc (o := .lst vs.reverse) hp
    exact q1 _ _ _ e2 r2 (.lst upd_same ((hs.reverse).mono e2))

/-! ### calls of built-ins -/
def eCal (o : List D → Option D) (l : M (List D)) : M D := fun env => (l env).bind fun ds env1 => R.opt (o ds) env1
theorem tCB_of {r : List V → Hp → VK → Prop} {o : List D → Option D} {l : M (List D)} {Q : VK} (hr : CaD cm X r o) (q : tG X.K cm (YV X.K cm) B (eCal o l) σ H Q) : tCB r (tG X.K cm (YD X.K cm) B l) σ H Q := by
  obtain ⟨G, env, r0, q⟩ := q
  refine want.bind r0 q fun ds env1 G1 H1 vs e1 r1 y1 q1 => ?_
  cases c : o ds with
  | none => rw [c] at q1; exact q1.elim
  | some d =>
    rw [c] at q1
    exact hr B G1 H1 σ env1 vs ds d Q r1 y1 c q1
variable {x : Str} {p : Pos} {id T : String} {r : List V → Hp → VK → Prop} {o : List D → Option D} {l : M (List D)}
theorem ce_calB (hc : CallR X (.builtin id) r) (hr : CaD cm X r o) (hg : Gl X x) (hm : X.mg x = none) (hv : bootBuiltins x = some (.builtin id)) (ha : CD cm X (e :: es) l) (hn : x ≠ "__name__" := by decide) (hdb : (x == ("__debug__" : Str)) = false := by decide)
    (he : starEach (e :: es) X.env = (false, eval e X.env) :: starEach es X.env := by rfl) (hpl : (backTo pos (starEach es X.env)).any (·.1) = false := by rfl) : CE cm X (.Call (.Name x p) (e :: es) [] pos) (eCal o l) := fun B tk =>
  (pe_callB hc hg hm hv (ha B tk) hn hdb he hpl).weak fun σ H Q q => tCB_of hr q
theorem ce_calT (hc : CallR X (.type T) r) (hr : CaD cm X r o) (hg : Gl X x) (hm : X.mg x = none) (hv : bootBuiltins x = some (.type T)) (ha : CD cm X (e :: es) l) (hn : x ≠ "__name__" := by decide) (hdb : (x == ("__debug__" : Str)) = false := by decide)
    (he : starEach (e :: es) X.env = (false, eval e X.env) :: starEach es X.env := by rfl) (hpl : (backTo pos (starEach es X.env)).any (·.1) = false := by rfl) : CE cm X (.Call (.Name x p) (e :: es) [] pos) (eCal o l) := fun B tk =>
  (pe_callTy hc hg hm hv (ha B tk) hn hdb he hpl).weak fun σ H Q q => tCB_of hr q
end

/-! ### the built-ins by data -/
def oLen : List D → Option D
  | [.lst xs] => some (.int xs.length)
  | [.tup xs] => some (.int xs.length)
  | [.str x] => if x.length ≤ sizeLine then some (.int x.length) else none
  | _ => none
def oAbs : List D → Option D
  | [.int i] => some (.int (if i < 0 then -i else i))
  | _ => none
def oIntC : List D → Option D
  | [.int i] => some (.int i)
  | [.bl b] => some (.int (if b then 1 else 0))
  | _ => none
def oMax2 : List D → Option D
  | [.int i, .int j] => some (.int (if j > i then j else i))
  | _ => none
def oMin2 : List D → Option D
  | [.int i, .int j] => some (.int (if j < i then j else i))
  | _ => none
def blsOf : List D → Option (List Bool)
  | [] => some []
  | .bl b :: ds => (blsOf ds).map (b :: ·)
  | _ => none
def intsOf : List D → Option (List Int)
  | [] => some []
  | .int b :: ds => (intsOf ds).map (b :: ·)
  | _ => none
def oAll : List D → Option D
  | [.lst xs] => (blsOf xs).map fun bs => .bl (bs.all id)
  | _ => none
def oAny : List D → Option D
  | [.lst xs] => (blsOf xs).map fun bs => .bl (bs.any id)
  | _ => none
def oSum : List D → Option D
  | [.lst xs] => (intsOf xs).map fun ns => .int ns.sum
  | _ => none
def oTupC : List D → Option D
  | [.lst xs] => some (.tup xs)
  | [.tup xs] => some (.tup xs)
  | _ => none
def oLstC : List D → Option D
  | [.lst xs] => some (.lst xs)
  | [.tup xs] => some (.lst xs)
  | _ => none
section
variable {cm : Str → Option Addr} {X : Cx} {G H : Hp}
theorem bls_of {K : PySem.W.Frag} : ∀ {ds : List D} {vs : List V} {bs : List Bool}, Rps K cm G vs ds → blsOf ds = some bs → vs = bs.map V.bl
  | [], vs, bs, h, e => by
    cases h
    simp only [blsOf, Option.some.injEq] at e
    subst e; rfl
  | d :: ds, vs, bs, h, e => by
    cases h with
    | cons h1 h2 =>
      cases d <;> simp only [blsOf] at e <;> try (cases e; done)
      simp only [Option.map_eq_some_iff] at e
      obtain ⟨bs', e1, rfl⟩ := e
      cases h1
      rw [bls_of h2 e1]; rfl
theorem ints_of {K : PySem.W.Frag} : ∀ {ds : List D} {vs : List V} {bs : List Int}, Rps K cm G vs ds → intsOf ds = some bs → vs = bs.map V.int
  | [], vs, bs, h, e => by
    cases h
    simp only [intsOf, Option.some.injEq] at e
    subst e; rfl
  | d :: ds, vs, bs, h, e => by
    cases h with
    | cons h1 h2 =>
      cases d <;> simp only [intsOf] at e <;> try (cases e; done)
      simp only [Option.map_eq_some_iff] at e
      obtain ⟨bs', e1, rfl⟩ := e
      cases h1
      rw [ints_of h2 e1]; rfl
/-- one argument -/
theorem Rps.one {K : PySem.W.Frag} {vs : List V} {d : D} (h : Rps K cm G vs [d]) : ∃ v, vs = [v] ∧ Rp K cm G v d := by
  cases h with | cons h1 h2 => cases h2; exact ⟨_, rfl, h1⟩
theorem Rps.two {K : PySem.W.Frag} {vs : List V} {d d' : D} (h : Rps K cm G vs [d, d']) : ∃ v v', vs = [v, v'] ∧ Rp K cm G v d ∧ Rp K cm G v' d' := by
  cases h with | cons h1 h2 => cases h2 with | cons h2 h3 => cases h3; exact ⟨_, _, rfl, h1, h2⟩
def rLenU (X : Cx) : List V → Hp → VK → Prop := fun xs H Q => (∃ p ys, xs = [.ref p] ∧ (SqL X.K H p ys ∨ SqT X.K H p ys) ∧ Q (.int ys.length) H) ∨ (∃ z, xs = [.str z] ∧ z.length ≤ sizeLine ∧ Q (.int z.length) H)
theorem call_lenU : CallR X (.builtin "len") (rLenU X) := call_len_seq.or call_len_str
theorem cad_len : CaD cm X (rLenU X) oLen := fun B G H σ env vs ds d Q r ys c q => by
  unfold oLen at c
  split at c
  · cases c
    obtain ⟨v, rfl, y⟩ := ys.one
    cases y with
    | lst h1 hs => exact .inl ⟨_, _, rfl, .inl (SqL.of (r.ex _ _ h1)), by rw [hs.length]; exact q G H _ (Ex.refl G) r (.int _)⟩
  · cases c
    obtain ⟨v, rfl, y⟩ := ys.one
    cases y with
    | tup h1 hs => exact .inl ⟨_, _, rfl, .inr (ex_t r.ex h1), by rw [hs.length]; exact q G H _ (Ex.refl G) r (.int _)⟩
  · split at c
    · cases c
      obtain ⟨v, rfl, y⟩ := ys.one
      cases y
      exact .inr ⟨_, rfl, by assumption, q G H _ (Ex.refl G) r (.int _)⟩
    · cases c
  · cases c
theorem cad_abs : CaD cm X (fun xs H Q => ∃ i, xs = [.int i] ∧ Q (.int (if i < 0 then -i else i)) H) oAbs := fun B G H σ env vs ds d Q r ys c q => by
  unfold oAbs at c
  split at c
  · cases c
    obtain ⟨v, rfl, y⟩ := ys.one
    cases y
    exact ⟨_, rfl, q G H _ (Ex.refl G) r (.int _)⟩
  · cases c
theorem cad_int : CaD cm X (fun xs H Q => (∃ i, xs = [.int i] ∧ Q (.int i) H) ∨ ∃ k, xs = [.bl k] ∧ Q (.int (if k then 1 else 0)) H) oIntC := fun B G H σ env vs ds d Q r ys c q => by
  unfold oIntC at c
  split at c
  · cases c
    obtain ⟨v, rfl, y⟩ := ys.one
    cases y
    exact .inl ⟨_, rfl, q G H _ (Ex.refl G) r (.int _)⟩
  · cases c
    obtain ⟨v, rfl, y⟩ := ys.one
    cases y
    exact .inr ⟨_, rfl, q G H _ (Ex.refl G) r (.int _)⟩
  · cases c
theorem cad_max2 : CaD cm X (fun xs H Q => ∃ i j, xs = [.int i, .int j] ∧ Q (.int (if j > i then j else i)) H) oMax2 := fun B G H σ env vs ds d Q r ys c q => by
  unfold oMax2 at c
  split at c
  · cases c
    obtain ⟨v, v', rfl, y, y'⟩ := ys.two
    cases y; cases y'
    exact ⟨_, _, rfl, q G H _ (Ex.refl G) r (.int _)⟩
  · cases c
theorem cad_min2 : CaD cm X (fun xs H Q => ∃ i j, xs = [.int i, .int j] ∧ Q (.int (if j < i then j else i)) H) oMin2 := fun B G H σ env vs ds d Q r ys c q => by
  unfold oMin2 at c
  split at c
  · cases c
    obtain ⟨v, v', rfl, y, y'⟩ := ys.two
    cases y; cases y'
    exact ⟨_, _, rfl, q G H _ (Ex.refl G) r (.int _)⟩
  · cases c
theorem cad_all : CaD cm X (rAll X.K) oAll := fun B G H σ env vs ds d Q r ys c q => by
  unfold oAll at c
  split at c
  · simp only [Option.map_eq_some_iff] at c
    obtain ⟨bs, e1, rfl⟩ := c
    obtain ⟨v, rfl, y⟩ := ys.one
    cases y with
    | lst h1 hs => exact ⟨_, bs, rfl, by rw [← bls_of hs e1]; exact SqL.of (r.ex _ _ h1), q G H _ (Ex.refl G) r (.bl _)⟩
  · cases c
theorem cad_any : CaD cm X (rAny X.K) oAny := fun B G H σ env vs ds d Q r ys c q => by
  unfold oAny at c
  split at c
  · simp only [Option.map_eq_some_iff] at c
    obtain ⟨bs, e1, rfl⟩ := c
    obtain ⟨v, rfl, y⟩ := ys.one
    cases y with
    | lst h1 hs => exact ⟨_, bs, rfl, by rw [← bls_of hs e1]; exact SqL.of (r.ex _ _ h1), q G H _ (Ex.refl G) r (.bl _)⟩
  · cases c
theorem cad_sum : CaD cm X (rSum X.K) oSum := fun B G H σ env vs ds d Q r ys c q => by
  unfold oSum at c
  split at c
  · simp only [Option.map_eq_some_iff] at c
    obtain ⟨bs, e1, rfl⟩ := c
    obtain ⟨v, rfl, y⟩ := ys.one
    cases y with
    | lst h1 hs => exact ⟨_, bs, rfl, by rw [← ints_of hs e1]; exact SqL.of (r.ex _ _ h1), q G H _ (Ex.refl G) r (.int _)⟩
  · cases c
theorem cad_tup : CaD cm X (fun xs H Q => ∃ p ys, xs = [.ref p] ∧ ((SqL X.K H p ys ∧ ∀ l, H l = none → Q (.ref l) (upd H l (.tup ys))) ∨ (SqT X.K H p ys ∧ Q (.ref p) H))) oTupC := fun B G H σ env vs ds d Q r ys c q => by
  unfold oTupC at c
  split at c
  · cases c
    obtain ⟨v, rfl, y⟩ := ys.one
    cases y with
    | lst h1 hs =>
      refine ⟨_, _, rfl, .inl ⟨SqL.of (r.ex _ _ h1), fun p hp => ?_⟩⟩
      obtain ⟨r2, e2⟩ := r.alloc (o := .tup _) hp
      exact q _ _ _ e2 r2 (.tup (st_of upd_same) (hs.mono e2))
  · cases c
    obtain ⟨v, rfl, y⟩ := ys.one
    cases y with
    | tup h1 hs => exact ⟨_, _, rfl, .inr ⟨ex_t r.ex h1, q G H _ (Ex.refl G) r (.tup h1 hs)⟩⟩
  · cases c
theorem cad_lst : CaD cm X (fun xs H Q => ∃ p ys, xs = [.ref p] ∧ (SqL X.K H p ys ∨ SqT X.K H p ys) ∧ ∀ l, H l = none → Q (.ref l) (upd H l (.lst ys))) oLstC := fun B G H σ env vs ds d Q r ys c q => by
  unfold oLstC at c
  split at c
  · cases c
    obtain ⟨v, rfl, y⟩ := ys.one
    cases y with
    | lst h1 hs =>
      refine ⟨_, _, rfl, .inl (SqL.of (r.ex _ _ h1)), fun p hp => ?_⟩
      obtain ⟨r2, e2⟩ := r.alloc (o := .lst _) hp
      exact q _ _ _ e2 r2 (.lst upd_same (hs.mono e2))
  · cases c
    obtain ⟨v, rfl, y⟩ := ys.one
    cases y with
    | tup h1 hs =>
      refine ⟨_, _, rfl, .inr (ex_t r.ex h1), fun p hp => ?_⟩
      obtain ⟨r2, e2⟩ := r.alloc (o := .lst _) hp
      exact q _ _ _ e2 r2 (.lst upd_same (hs.mono e2))
  · cases c
end
end Vs

set_option Elab.async false
set_option linter.all false
set_option maxRecDepth 100000
set_option maxHeartbeats 4000000
/-! VsD2: a def's promise where no repr is under way (needed for repr of what has parts); the law's head for it. -/
namespace Vs
open PySem PySem.Spec PyProof.Rows L2 Evl

/-- a def keeps its promise, called while nothing is being shown -/
structure FnG (P : Program) (w : World) (K : PySem.W.Frag) (mg : Str → Option Value) (base : Heap) (k : Nat) (f : Addr) (fd : FuncData) (ps : List Str) (sp : Sp) : Prop where
  many : ∀ vs H Q E, sp vs H Q E → vs.length = ps.length
  runs : ∀ (A : Around) (outer : List PySem.Env) (s : Shared) (H : Hp) (args : Args) (us : List Value) (vs : List V) (Q : VK) (E : XK), Room k A → A.guards = some [] → Env0 P w K mg base A outer s H → BindsTo s fd args (ps.zip us) → Vals vs us →
    sp vs H Q E → codeAny (model P w) A (.call (.ref f) args) (CR (L2.CX P w) outer P w H s Q E) s
section
variable {P : Program} {w : World} {K : PySem.W.Frag} {mg : Str → Option Value} {base : Heap} {k : Nat} {f : Addr} {name qual : Str} {params : Arguments} {body : List Stmt} {scope : Scope} {dV kV doc pm cdv ct oc : Value} {an od : Option Addr}
  {osl : Array (Option Value)} {N ps : List Str} {sp : Sp}
/-- by its body -/
theorem fnG_of (there : K.lookup f = some ⟨oc, od, .func (PySem.W.fnOf name qual params body scope dV kV doc pm an cdv ct), osl⟩) (code : PySem.W.codeIn K cdv qual = true) (S : FnScope N ps scope) (many : ∀ vs H Q E, sp vs H Q E → vs.length = ps.length)
    (does : ∀ (A : Around) (outer : List PySem.Env) (s : Shared) (H : Hp) (vs : List V) (Q : VK) (E : XK), Room k (A.deeper (envOfC qual scope s.heap.objs.size f cdv)) → A.guards = some [] → sp vs H Q E →
      ∃ t, PSs (cxOf (L2.CX P w) P w K mg base N qual scope f cdv A outer s H E) body t ∧ t { nx := fun _ H' => Q .non H', rt := Q } (L2.start N vs) H) :
    FnG P w K mg base (k + 1) f (PySem.W.fnOf name qual params body scope dV kV doc pm an cdv ct) ps sp where
  many := many
  runs := by
    intro A outer s H args us vs Q E room guard env binds rel promise
    have kept : K.In s.heap := env.mod.kin.keeps (fun b o there => (env.bs b o there).1)
    have free : s.heap.NoLimit := env.mod.nolimit.keeps (fun b o there => (env.bs b o there).1)
    obtain ⟨t, run, want⟩ := does A outer s H vs Q E (room.deeper _) guard promise
    refine codeAny_call_function room.depth (kept _ _ there) rfl S.co S.gen rfl (PySem.W.codeRec_of kept code) (binds _ _ _ _ ?_)
    refine wpAny_newFunctionEnv_cells S.kind (fun y hy => ?_) (fun env' same s1 made => ?_)
    · rcases S.par y.1 (List.of_mem_zip (show (y.1, y.2) ∈ ps.zip us from hy)).1 with q | q
      · exact .inl q
      · exact .inr ⟨q, PySem.W.cellsFrom_some _ _ _ (.inl q)⟩
    · subst same
      refine ⟨free.keeps made.toInCall.keep, codeAny_func ?_⟩
      have inv := inv_start (CX := L2.CX P w) (P := P) (w := w) (K := K) (mg := mg) (base := base) (E := E) S room.hd env (many _ _ _ _ promise) rel made
      refine wpAny_mono (run.run [] s1 _ H _ inv want) ?_ (fun _ _ h => h)
      rintro (_ | _ | _ | u) s' ends
      · obtain ⟨σ', H', J, q⟩ := ends
        exact ⟨.non, H', J.os, J.bare, J.base, J.hok, rfl, q⟩
      all_goals first
        | (obtain ⟨v, σ', H', J, rv, q⟩ := ends; exact ⟨v, H', J.os, J.bare, J.base, J.hok, rv, q⟩)
        | (obtain ⟨_, _, _, q⟩ := ends; exact q.elim)
end

/-! ### the law's own call -/
section
variable {P : Program} {w : World} {K : PySem.W.Frag} {mg mb : Str → Option Value} {k : Nat} {fa a : Addr} {fd : FuncData} {x : Str} {sp : Sp} {s : Shared} {vs : List Value} {ns : List Int}
/-- from a heap in which the script is known, or nothing at all -/
theorem lawG_from (H : Hp) (only : ∀ b u, H b = some u → b = a ∧ ∃ xs, u = .frz { cls := .type "list", data := .seq vs.toArray } (.lst xs)) (seen : SqL K H a (ns.map V.int)) (ok : HOk P w H s.heap) (apart : H a ≠ none → K.lookup a = none)
    (KX : K.In s.heap) (gl : s.heap.Ns mainGlobals mg) (bl : s.heap.Ns builtinsNs mb) (boot : ∀ x : Str, x ≠ "__name__" → mb x = bootBuiltins x) (lim : s.heap.NoLimit) (gens : s.gens = #[])
    (there : s.heap.get? a = some { cls := .type "list", data := .seq vs.toArray }) (room : Room k callerA)
    (F : ∀ base : Heap, K.In base → base.Ns mainGlobals mg → FnG P w K mg base k fa fd [x] sp) (bind : ∀ (s : Shared) (u : Value), BindsTo s fd ⟨[u], []⟩ [(x, u)])
    (hsp : sp [.ref a] H (fun v _ => v = .bl true) fun _ _ _ => False) :
    codeAny (model P w) callerA (.call (.ref fa) ⟨[.ref a], []⟩) (fun r s' => r = .ok (.ret (.bool true)) ∧ OldK s.heap s'.heap ∧ s'.os = s.os ∧ AllBare s'.gens) s := by
  have free : ∀ {b : Addr} {o : Obj}, s.heap.get? b = some o → b ≠ a → H b = none := fun {b o} _ ne => by
    cases q : H b with
    | none => rfl
    | some u => exact absurd (only b u q).1 ne
  have dictFree : ∀ {b : Addr} {o : Obj} {es : Array DictEntry} {n : Nat}, s.heap.get? b = some o → o.data = .dict es n → H b = none := fun {b o es n} e d => free e fun z => by
    subst z
    rw [there] at e
    cases e
    cases d
  have ns_ : ∀ {b : Addr} {m : Str → Option Value}, s.heap.Ns b m → (hidT s.heap H).Ns b m := fun {b m} h => by
    obtain ⟨o, es, n, e, d, r⟩ := h
    exact ⟨o, es, n, hidT_get e (dictFree e d), d, r⟩
  have kin : K.In (hidT s.heap H) := fun b o e => hidT_get (KX b o e) (by
    cases q : H b with
    | none => rfl
    | some u =>
      have z := (only b u q).1
      subst z
      rw [apart (by rw [q]; exact fun z => nomatch z)] at e
      cases e)
  obtain ⟨mc, l1, l2⟩ := lim
  have env : Env0 P w K mg (hidT s.heap H) callerA [] s H := by
    refine ⟨rfl, ⟨kin, ns_ gl, ⟨mb, ns_ bl, boot⟩, ⟨mc, ns_ l1, l2⟩⟩, fun b o e => of_hidT e, Nat.le_of_eq (hidT_size _ _), trivial, fun b hb => (by cases (show b ∈ ([] : List Addr) from hb)), ok, AllBare.of_eq gens⟩
  refine codeAny_mono ((F _ kin (ns_ gl)).runs callerA [] s H ⟨[.ref a], []⟩ [.ref a] [.ref a] _ _ room rfl env (bind s (.ref a)) (.cons rfl .nil) hsp) ?_
  rintro (e | (_ | _ | _ | u)) s' h
  · obtain ⟨_, _, _, _, _, _, _, _, _, _, _, _, z⟩ := h
    exact z.elim
  all_goals first
    | exact False.elim h
    | skip
  obtain ⟨v, H', os, bare, un, ok', rv, q⟩ := h
  subst q
  cases rv
  refine ⟨rfl, OldK.of_keep fun b o e => ?_, os, bare⟩
  cases q : H b with
  | none => exact un.keep b o e q (fun z => nomatch z) (fun z => nomatch z)
  | some u =>
    obtain ⟨_, xs, rfl⟩ := only b u q
    have q2 := un.frzs b _ _ q
    have h1 := (ok b _ q).1
    have h2 := (ok' b _ q2).1
    rw [e] at h1
    cases h1
    exact h2
theorem lawG_call (KX : K.In s.heap) (gl : s.heap.Ns mainGlobals mg) (bl : s.heap.Ns builtinsNs mb) (boot : ∀ x : Str, x ≠ "__name__" → mb x = bootBuiltins x) (lim : s.heap.NoLimit) (gens : s.gens = #[])
    (there : s.heap.get? a = some { cls := .type "list", data := .seq vs.toArray }) (isInts : IntsAre vs ns) (few : ns.length ≤ sizeLine) (room : Room k callerA)
    (F : ∀ base : Heap, K.In base → base.Ns mainGlobals mg → FnG P w K mg base k fa fd [x] sp) (bind : ∀ (s : Shared) (u : Value), BindsTo s fd ⟨[u], []⟩ [(x, u)])
    (hsp : ∀ H : Hp, SqL K H a (ns.map V.int) → sp [.ref a] H (fun v _ => v = .bl true) fun _ _ _ => False) :
    codeAny (model P w) callerA (.call (.ref fa) ⟨[.ref a], []⟩) (fun r s' => r = .ok (.ret (.bool true)) ∧ OldK s.heap s'.heap ∧ s'.os = s.os ∧ AllBare s'.gens) s := by
  have rel := vals_ints isInts
  have len := isInts.length
  cases hk : K.lookup a with
  | some o =>
    have e := KX a o hk
    rw [there] at e
    cases e
    have seen : SqL K (fun _ => none) a (ns.map V.int) := .inr ⟨_, vs.toArray, _, hk, rfl, rfl, rfl, by rw [List.size_toArray, len]; exact few, by simpa using rel⟩
    exact lawG_from (fun _ => none) (fun b u z => nomatch z) seen (fun b u z => nomatch z) (fun z => absurd rfl z) KX gl bl boot lim gens there room F bind (hsp _ seen)
  | none =>
    have seen : SqL K (fun b => if b = a then some (.frz { cls := .type "list", data := .seq vs.toArray } (.lst (ns.map V.int))) else none) a (ns.map V.int) := .inl (.inr ⟨{ cls := .type "list", data := .seq vs.toArray }, if_pos rfl⟩)
    refine lawG_from _ (fun b u z => ?_) seen (fun b u z => ?_) (fun _ => hk) KX gl bl boot lim gens there room F bind (hsp _ seen)
    · by_cases hb : b = a
      · rw [if_pos hb] at z
        cases z
        exact ⟨hb, _, rfl⟩
      · rw [if_neg hb] at z
        cases z
    · by_cases hb : b = a
      · rw [if_pos hb] at z
        cases z
        subst hb
        exact ⟨there, by rw [List.length_map]; exact few, vs, _, rel, there⟩
      · rw [if_neg hb] at z
        cases z
end
/-- the goal that the head leaves -/
theorem walkG {l : PySem.W.OpenLaw} {n k : Nat} {q : Program} {loose : List Str} {XP : (Str → Option Value) → Heap → Prop} {YP : World → Heap → Prop} {d : DefRec} {K : Params → PySem.W.Frag} {sp : PySem.W.Frag → Sp} {x : Str} (most : l.most = some n) (few : n ≤ sizeLine) (nodef : d.params.defaults = [])
    (room : Room k callerA) (hY : ∀ (w : World) (h : Heap), YP w h → (K w.params).In h)
    (F : ∀ (w : World) (mg : Str → Option Value) (fa : Addr) (h : Heap), (K w.params).In h → h.Ns mainGlobals mg → mg d.name = some (.ref fa) →
      ∃ fd : FuncData, (∀ (s : Shared) (u : Value), BindsTo s fd ⟨[u], []⟩ [(x, u)]) ∧ ∀ base : Heap, (K w.params).In base → base.Ns mainGlobals mg → FnG l.prog w (K w.params) mg base k fa fd [x] (sp (K w.params)))
    (hsp : ∀ (K : PySem.W.Frag) (H : Hp) (a : Addr) (ns : List Int), ns.length ≤ n → SqL K H a (ns.map V.int) → sp K [.ref a] H (fun v _ => v = .bl true) fun _ _ _ => False) :
    PySem.W.WalkO q loose XP YP l.row.toRowW d [] (fun f vs => PySem.call f vs) := by
  refine Att.attach_call most nodef fun w s₀ s₁ mg mb fa o pm cd doc a vs ns G Y ho hd hcd hmg there isInts len gens => ?_
  have KX := hY w _ Y
  obtain ⟨fd, bind, hF⟩ := F w mg fa _ KX G.T.g hmg
  exact lawG_call KX G.T.g G.T.b G.T.builtins G.T.nolimit gens there isInts (Nat.le_trans len few) room hF bind fun H seen => hsp _ H a ns len seen
end Vs

set_option Elab.async false
set_option linter.all false
set_option maxRecDepth 100000
set_option maxHeartbeats 4000000
/-! VsE: statements, defs, calls of defs. -/
namespace Vs
open PySem PySem.Spec PyProof.Rows L2 Evl

inductive RS where
  | next (env : Vs.Env) | ret (d : D) (env : Vs.Env) | brk (env : Vs.Env) | cont (env : Vs.Env) | exc (x : Xn) (env : Vs.Env) | retF (ds : List D) (env : Vs.Env) | no
def R.toS {α : Type} (r : R α) (k : α → Vs.Env → RS) : RS := match r with
  | .ok a e => k a e
  | .exc x e => .exc x e
  | .no => .no
@[simp] theorem R.toS_ok {α : Type} (a : α) (e : Vs.Env) (f : α → Vs.Env → RS) : (R.ok a e).toS f = f a e := rfl
@[simp] theorem R.toS_exc {α : Type} (x : Xn) (e : Vs.Env) (f : α → Vs.Env → RS) : (R.exc x e : R α).toS f = .exc x e := rfl
@[simp] theorem R.toS_no {α : Type} (f : α → Vs.Env → RS) : (R.no : R α).toS f = .no := rfl
def RS.seq (r : RS) (k : Vs.Env → RS) : RS := match r with
  | .next e => k e
  | r => r
@[simp] theorem RS.seq_next (e : Vs.Env) (k : Vs.Env → RS) : (RS.next e).seq k = k e := rfl
@[simp] theorem RS.seq_ret (d : D) (e : Vs.Env) (k : Vs.Env → RS) : (RS.ret d e).seq k = .ret d e := rfl
@[simp] theorem RS.seq_brk (e : Vs.Env) (k : Vs.Env → RS) : (RS.brk e).seq k = .brk e := rfl
@[simp] theorem RS.seq_cont (e : Vs.Env) (k : Vs.Env → RS) : (RS.cont e).seq k = .cont e := rfl
@[simp] theorem RS.seq_exc (x : Xn) (e : Vs.Env) (k : Vs.Env → RS) : (RS.exc x e).seq k = .exc x e := rfl
@[simp] theorem RS.seq_retF (ds : List D) (e : Vs.Env) (k : Vs.Env → RS) : (RS.retF ds e).seq k = .retF ds e := rfl
@[simp] theorem RS.seq_no (k : Vs.Env → RS) : RS.no.seq k = .no := rfl
abbrev MS := Vs.Env → RS

section
variable (K : PySem.W.Frag) (cm : Str → Option Addr)
def wantS (B : Base) (G : Hp) (D : Ends) : RS → Prop
  | .next env' => ∀ G' H' σ', Ex G G' → Rel K cm B G' H' σ' env' → D.nx σ' H'
  | .ret d env' => ∀ G' H' σ' v, Ex G G' → Rel K cm B G' H' σ' env' → Rp K cm G' v d → D.rt v H'
  | .brk env' => ∀ G' H' σ', Ex G G' → Rel K cm B G' H' σ' env' → D.bk σ' H'
  | .cont env' => ∀ G' H' σ', Ex G G' → Rel K cm B G' H' σ' env' → D.ct σ' H'
  | .exc x env' => ∀ G' H' σ' cls dd, Ex G G' → Rel K cm B G' H' σ' env' → XRel K cm G' H' cls dd x → B.W cls dd σ' H'
  | .retF ds env' => ∀ G' H' σ' p vs, Ex G G' → Rel K cm B G' H' σ' env' → H' p = some (.lst vs) → G' p = none → Rps K cm G' vs ds → ¬ B.prot p → D.rt (.ref p) H'
  | .no => False
def tS (B : Base) (g : MS) : TS := fun D σ H => ∃ G env, Rel K cm B G H σ env ∧ wantS K cm B G D (g env)
end
section
variable {K : PySem.W.Frag} {cm : Str → Option Addr} {α β : Type} {Y : Hp → L2.St → β → α → Prop} {B : Base} {G G1 H : Hp} {σ : L2.St} {env : Vs.Env} {D : Ends}
theorem wantS.mono {r : RS} (e : Ex G G1) (h : wantS K cm B G D r) : wantS K cm B G1 D r := by
  cases r with
  | next env' => exact fun G' H' σ' e1 => h G' H' σ' (e.trans e1)
  | ret d env' => exact fun G' H' σ' v e1 => h G' H' σ' v (e.trans e1)
  | brk env' => exact fun G' H' σ' e1 => h G' H' σ' (e.trans e1)
  | cont env' => exact fun G' H' σ' e1 => h G' H' σ' (e.trans e1)
  | exc x env' => exact fun G' H' σ' c d e1 => h G' H' σ' c d (e.trans e1)
  | retF ds env' => exact fun G' H' σ' p vs e1 => h G' H' σ' p vs (e.trans e1)
  | no => exact h
/-- an expression's reading within a statement -/
theorem wantS.bind {Q1 : β → Hp → Prop} {f : M α} {k : α → Vs.Env → RS} (r : Rel K cm B G H σ env) (h : wantS K cm B G D ((f env).toS k))
    (hk : ∀ a env1 G1 H1 b, Ex G G1 → Rel K cm B G1 H1 σ env1 → Y G1 σ b a → wantS K cm B G1 D (k a env1) → Q1 b H1) : tG K cm Y B f σ H Q1 := by
  refine ⟨G, env, r, ?_⟩
  cases e : f env with
  | ok a env1 =>
    rw [e] at h
    exact fun G1 H1 b e1 r1 y => hk a env1 G1 H1 b e1 r1 y (wantS.mono e1 h)
  | exc x env1 =>
    rw [e] at h
    exact fun G' H' cls dd => h G' H' σ cls dd
  | no =>
    rw [e] at h
    exact h
end
section
variable (cm : Str → Option Addr) (X : Cx)
def CS (st : Stmt) (g : MS) : Prop := ∀ B : Base, Takes X B.W → PassesOwn (model X.prog X.w) X.A X.env X.xe → PS X st (tS X.K cm B g)
def CSs (st : List Stmt) (g : MS) : Prop := ∀ B : Base, Takes X B.W → PassesOwn (model X.prog X.w) X.A X.env X.xe → PSs X st (tS X.K cm B g)
/-- a target takes data -/
def But (ws : List Nat) (σ σ' : L2.St) : Prop := σ'.length = σ.length ∧ ∀ j, j ∉ ws → σ'[j]? = σ[j]?
def tGt (B : Base) (ws : List Nat) (k : D → Vs.Env → Option Vs.Env) : TG := fun v σ H Q => ∃ G env d env', Rel X.K cm B G H σ env ∧ Rp X.K cm G v d ∧ k d env = some env' ∧ ∀ G' H' σ', Ex G G' → Rel X.K cm B G' H' σ' env' → But ws σ σ' → Q σ' H'
def tGts (B : Base) (ws : List Nat) (k : List D → Vs.Env → Option Vs.Env) : TGs := fun vs σ H Q => ∃ G env ds env', Rel X.K cm B G H σ env ∧ Rps X.K cm G vs ds ∧ k ds env = some env' ∧ ∀ G' H' σ', Ex G G' → Rel X.K cm B G' H' σ' env' → But ws σ σ' → Q σ' H'
/-- ws: the slots that it stores -/
def CG (tg : Expr) (ws : List Nat) (k : D → Vs.Env → Option Vs.Env) : Prop := ∀ B : Base, PG X tg (tGt cm X B ws k)
def CGs (tg : List Expr) (ws : List Nat) (k : List D → Vs.Env → Option Vs.Env) : Prop := ∀ B : Base, PGs X tg (tGts cm X B ws k)
end
theorem _root_.L2.PG.weak {X : Cx} {e : Expr} {t t' : TG} (h : PG X e t) (w : ∀ v σ H Q, t' v σ H Q → t v σ H Q) : PG X e t' := ⟨fun pins s σ H v u Q I r q => h.run pins s σ H v u Q I r (w _ _ _ _ q)⟩
theorem _root_.L2.PGs.weak {X : Cx} {e : List Expr} {t t' : TGs} (h : PGs X e t) (w : ∀ v σ H Q, t' v σ H Q → t v σ H Q) : PGs X e t' := ⟨fun pins s σ H v u Q I r q => h.run pins s σ H v u Q I r (w _ _ _ _ q)⟩

section
variable {cm : Str → Option Addr} {X : Cx} {B : Base} {G H : Hp} {σ : L2.St} {env : Vs.Env} {a b c e tg : Expr} {es tgs : List Expr} {st : Stmt} {sts : List Stmt} {f : M D} {u : M Bool} {g g2 : MS} {pos : Pos}
/-! ### targets -/
def kN (i : Nat) : D → Vs.Env → Option Vs.Env := fun d env => some (env.set i (some (.fz d)))
def kNil : List D → Vs.Env → Option Vs.Env
  | [], env => some env
  | _, _ => none
def kCons (k : D → Vs.Env → Option Vs.Env) (ks : List D → Vs.Env → Option Vs.Env) : List D → Vs.Env → Option Vs.Env
  | d :: ds, env => (k d env).bind fun env1 => ks ds env1
  | [], _ => none
def kT (n : Nat) (ks : List D → Vs.Env → Option Vs.Env) : D → Vs.Env → Option Vs.Env
  | .tup ds, env => if ds.length = n then ks ds env else none
  | _, _ => none
theorem cg_n (i : Nat) {x : Str} (hN : X.N.Nodup) (hi : X.N[i]? = some x := by rfl) (hx : Loc X.env.scope x := by first | exact Or.inl rfl | exact Or.inr rfl) (hf : X.fn x = true ∨ X.env.scope.names.lookup x = some .local := by first | exact .inl rfl | exact .inr rfl | assumption) : CG cm X (.Name x pos) [i] (kN i) := fun B =>
  (pg_name hN hi hx hf).weak fun v σ H Q ⟨G, env, d, env', r, y, e, q⟩ => by
    cases e
    exact q G H _ (Ex.refl G) (r.setFz i y) ⟨by simp, fun j hj => List.getElem?_set_ne fun z => hj (by simp [z])⟩
theorem cgs_nil : CGs cm X [] [] kNil := fun B => pgs_nil.weak fun vs σ H Q ⟨G, env, ds, env', r, y, e, q⟩ => by
  cases y with
  | nil => cases e; exact ⟨rfl, q G H σ (Ex.refl G) r ⟨rfl, fun _ _ => rfl⟩⟩
  | cons _ _ => cases e
theorem cgs_cons {w1 w2 : List Nat} {k : D → Vs.Env → Option Vs.Env} {ks : List D → Vs.Env → Option Vs.Env} (h1 : CG cm X tg w1 k) (h2 : CGs cm X tgs w2 ks) (hs : (assignEach (tg :: tgs) X.env).map (·.2) = assign tg X.env :: (assignEach tgs X.env).map (·.2) := by rfl) : CGs cm X (tg :: tgs) (w1 ++ w2) (kCons k ks) := fun B =>
  (pgs_cons (h1 B) (h2 B) hs).weak fun vs σ H Q ⟨G, env, ds, env', r, y, e, q⟩ => by
    cases y with
    | nil => cases e
    | cons y1 y2 =>
      have e : (k _ env).bind (fun env1 => ks _ env1) = some env' := e
      rw [Option.bind_eq_some_iff] at e
      obtain ⟨env1, e1, e2⟩ := e
      exact ⟨_, _, rfl, G, env, _, env1, r, y1, e1, fun G' H' σ' ex r' b1 => ⟨G', env1, _, env', r', Rps.mono ex y2, e2, fun G2 H2 σ2 ex2 r2 b2 => q G2 H2 σ2 (ex.trans ex2) r2 ⟨b2.1.trans b1.1, fun j hj => (b2.2 j fun z => hj (List.mem_append_right _ z)).trans (b1.2 j fun z => hj (List.mem_append_left _ z))⟩⟩⟩
theorem cg_t {ws : List Nat} {k : Nat} {ks : List D → Vs.Env → Option Vs.Env} {n : Nat} (hc : X.calm = true) (h : CGs cm X tgs ws ks) (hn : (assignEach tgs X.env).length = n := by rfl) (hst : (assignEach tgs X.env).findIdx? (·.1) = none := by rfl) : CG cm X (.Tuple tgs k pos) ws (kT n ks) := fun B =>
  (pg_tup hc (h B) hn hst).weak fun v σ H Q ⟨G, env, d, env', r, y, e, q⟩ => by
    match d, y, e with
    | .tup ds, .tup (a := a) (vs := vs) h1 hs, e =>
      have e : (if ds.length = n then ks ds env else none) = some env' := e
      by_cases hl : ds.length = n
      · rw [if_pos hl] at e
        exact ⟨a, vs, rfl, ex_t r.ex h1, hs.length.trans hl, G, env, ds, env', r, hs, e, q⟩
      · rw [if_neg hl] at e; cases e

/-! ### statements -/
theorem css_nil : CSs cm X [] (fun env => .next env) := fun B tk hp => pss_nil.weak fun D σ H ⟨G, env, r, q⟩ => q G H σ (Ex.refl G) r
def sSeq (g g2 : MS) : MS := fun env => (g env).seq g2
theorem css_cons (h : CS cm X st g) (h2 : CSs cm X sts g2) : CSs cm X (st :: sts) (sSeq g g2) := fun B tk hp => (pss_cons (h B tk hp) (h2 B tk hp)).weak fun D σ H ⟨G, env, r, q⟩ => by
  refine ⟨G, env, r, ?_⟩
  unfold sSeq at q
  cases c : g env with
  | next env1 => rw [c] at q; exact fun G' H' σ' e r' => ⟨G', env1, r', wantS.mono e q⟩
  | ret d env1 => rw [c] at q; exact q
  | brk env1 => rw [c] at q; exact q
  | cont env1 => rw [c] at q; exact q
  | exc x env1 => rw [c] at q; exact q
  | retF ds env1 => rw [c] at q; exact q
  | no => rw [c] at q; exact q
theorem css_one (h : CS cm X st g) : CSs cm X [st] g := fun B tk hp => pss_one (h B tk hp)
/-- an own list is laid down (nothing of the text) -/
def fzE (i : Nat) (env : Vs.Env) : Vs.Env := match env[i]? with
  | some (some (.ol _ ds)) => env.set i (some (.fz (.lst ds)))
  | _ => env
theorem css_fz (i : Nat) (h : CSs cm X sts g) : CSs cm X sts (fun env => g (fzE i env)) := fun B tk hp => (h B tk hp).weak fun D σ H ⟨G, env, r, q⟩ => by
  have q : wantS X.K cm B G D (g (fzE i env)) := q
  unfold fzE at q
  split at q
  · rename_i k ds e
    obtain ⟨G1, e1, r1⟩ := r.freeze e
    exact ⟨G1, _, r1, wantS.mono e1 q⟩
  · exact ⟨G, env, r, q⟩
def sExpr (f : M D) : MS := fun env => (f env).toS fun _ env1 => .next env1
theorem cs_expr (h : CE cm X e f) (hs : swapsWith e none pos.line X.env = pure false := by rfl) : CS cm X (.Expr e pos) (sExpr f) := fun B tk hp => (ps_expr (h B tk) hs).weak fun D σ H ⟨G, env, r, q⟩ =>
  wantS.bind r q fun d env1 G1 H1 v e1 r1 y q1 => q1 G1 H1 σ (Ex.refl G1) r1
theorem cs_doc {x j pos pos'} : CS cm X (.Expr (.Constant (.str x) j pos) pos') (fun env => .next env) := fun B tk hp => ps_doc.weak fun D σ H ⟨G, env, r, q⟩ => q G H σ (Ex.refl G) r
theorem cs_pass : CS cm X (.Pass pos) (fun env => .next env) := fun B tk hp => ps_pass.weak fun D σ H ⟨G, env, r, q⟩ => q G H σ (Ex.refl G) r
theorem cs_brk : CS cm X (.Break pos) (fun env => .brk env) := fun B tk hp => ps_break.weak fun D σ H ⟨G, env, r, q⟩ => q G H σ (Ex.refl G) r
theorem cs_cont : CS cm X (.Continue pos) (fun env => .cont env) := fun B tk hp => ps_continue.weak fun D σ H ⟨G, env, r, q⟩ => q G H σ (Ex.refl G) r
def sRet (f : M D) : MS := fun env => (f env).toS fun d env1 => .ret d env1
theorem cs_ret (h : CE cm X e f) : CS cm X (.Return (some e) pos) (sRet f) := fun B tk hp => (ps_ret (h B tk)).weak fun D σ H ⟨G, env, r, q⟩ =>
  wantS.bind r q fun d env1 G1 H1 v e1 r1 y q1 => q1 G1 H1 σ v (Ex.refl G1) r1 y
theorem cs_retN : CS cm X (.Return none pos) (fun env => .ret .non env) := fun B tk hp => ps_retN.weak fun D σ H ⟨G, env, r, q⟩ => q G H σ _ (Ex.refl G) r .non
def sIf (u : M Bool) (g g2 : MS) : MS := fun env => (u env).toS fun k env1 => if k = true then g env1 else g2 env1
theorem cs_if {p q : List Stmt} (hc : CT cm X c u) (h : CSs cm X p g) (h2 : CSs cm X q g2) : CS cm X (.If c p q pos) (sIf u g g2) := fun B tk hp => (ps_if (hc B tk) (h B tk hp) (h2 B tk hp)).weak fun D σ H ⟨G, env, r, q⟩ =>
  wantS.bind r q fun k env1 G1 H1 v e1 r1 y q1 => by
    cases y
    cases k with
    | true => exact iteT ⟨G1, env1, r1, q1⟩
    | false => exact iteF ⟨G1, env1, r1, q1⟩
def sAsg (f : M D) (k : D → Vs.Env → Option Vs.Env) : MS := fun env => (f env).toS fun d env1 => match k d env1 with
  | some env2 => .next env2
  | none => .no
theorem asg_of {ws : List Nat} {k : D → Vs.Env → Option Vs.Env} {D : Ends} (q : tS X.K cm B (sAsg f k) D σ H) : tAsg (tG X.K cm (YV X.K cm) B f) (tGt cm X B ws k) D σ H := by
  obtain ⟨G, env, r, q⟩ := q
  refine wantS.bind r q fun d env1 G1 H1 v e1 r1 y q1 => ?_
  cases c : k d env1 with
  | none => rw [c] at q1; exact q1.elim
  | some env2 => rw [c] at q1; exact ⟨G1, env1, d, env2, r1, y, c, fun G' H' σ' e r _ => q1 G' H' σ' e r⟩
theorem cs_asg {ws : List Nat} {k : D → Vs.Env → Option Vs.Env} (h : CE cm X e f) (hg : CG cm X tg ws k) (hs : swapsWithSole [tg] e pos.line X.env = pure false := by rfl) (hw : swappedStores [tg] e X.env = pure none := by rfl)
    (h1 : (assignEach [tg] X.env).map (·.2) = [assign tg X.env] := by rfl) : CS cm X (.Assign [tg] e pos) (sAsg f k) := fun B tk hp => (ps_asg (h B tk) (hg B) hs hw h1).weak fun D σ H q => asg_of q
def sSet (i : Nat) (f : M D) : MS := fun env => (f env).toS fun d env1 => .next (env1.set i (some (.fz d)))
theorem cs_set (i : Nat) {x : Str} {pos' : Pos} (h : CE cm X e f) (hN : X.N.Nodup) (hi : X.N[i]? = some x := by rfl) (hx : Loc X.env.scope x := by first | exact Or.inl rfl | exact Or.inr rfl) (hs : swapsWith e (some (.Name x pos')) pos.line X.env = pure false := by rfl)
    (hf : X.fn x = true ∨ X.env.scope.names.lookup x = some .local := by first | exact .inl rfl | exact .inr rfl | assumption) : CS cm X (.Assign [.Name x pos'] e pos) (sSet i f) := fun B tk hp => (ps_set hN hi hx (h B tk) hs hf).weak fun D σ H ⟨G, env, r, q⟩ =>
  wantS.bind r q fun d env1 G1 H1 v e1 r1 y q1 => q1 G1 H1 _ (Ex.refl G1) (r1.setFz i y)
/-- a, b = x, y -/
def sPar (i j : Nat) (l : M (List D)) : MS := fun env => (l env).toS fun ds env1 => match ds with
  | [d1, d2] => .next ((env1.set i (some (.fz d1))).set j (some (.fz d2)))
  | _ => .no
theorem cs_par (i j : Nat) {x y : Str} {px py pt : Pos} {kt k2 pt2} {l : M (List D)} (hc : X.calm = true) (hN : X.N.Nodup) (ha : CD cm X [a, b] l) (hi : X.N[i]? = some x := by rfl) (hj : X.N[j]? = some y := by rfl) (hij : i ≠ j := by decide)
    (hx : X.env.scope.names.lookup x = some .local := by rfl) (hy : X.env.scope.names.lookup y = some .local := by rfl) (hw : swappedStores [.Tuple [.Name x px, .Name y py] kt pt] (.Tuple [a, b] k2 pt2) X.env = pure (some [x, y]) := by rfl)
    (hs : swapsWithSole [.Tuple [.Name x px, .Name y py] kt pt] (.Tuple [a, b] k2 pt2) pos.line X.env = pure false := by rfl) : CS cm X (.Assign [.Tuple [.Name x px, .Name y py] kt pt] (.Tuple [a, b] k2 pt2) pos) (sPar i j l) := fun B tk hp =>
  (ps_par hc hN hi hj hij hx hy (ha B tk) hw hs).weak fun D σ H ⟨G, env, r, q⟩ => wantS.bind r q fun ds env1 G1 H1 vs e1 r1 y q1 => by
    match ds, y, q1 with
    | [d1, d2], y, q1 =>
      obtain ⟨v1, v2, rfl, y1, y2⟩ := y.two
      exact ⟨v1, v2, rfl, q1 G1 H1 _ (Ex.refl G1) ((r1.setFz i y1).setFz j y2)⟩
def sPar3 (i j k : Nat) (l : M (List D)) : MS := fun env => (l env).toS fun ds env1 => match ds with
  | [d1, d2, d3] => .next (((env1.set i (some (.fz d1))).set j (some (.fz d2))).set k (some (.fz d3)))
  | _ => .no
/-- x op= e -/
def sAug (i : Nat) (o : D → D → Option D) (f : M D) : MS := fun env => match env[i]? with
  | some (some (.fz d)) => (f env).toS fun d2 env1 => match o d d2 with
    | some z => .next (env1.set i (some (.fz z)))
    | none => .no
  | _ => .no
theorem cs_aug (i : Nat) {x : Str} {op : Operator} {ti : TIp} {o : D → D → Option D} {pos' : Pos} (ho : PIp X op ti) (hr : OpD cm X ti o) (h : CE cm X e f) (hN : X.N.Nodup) (hi : X.N[i]? = some x := by rfl) (hx : Loc X.env.scope x := by first | exact Or.inl rfl | exact Or.inr rfl)
    (hf : X.fn x = true ∨ X.env.scope.names.lookup x = some .local := by first | exact .inl rfl | exact .inr rfl | assumption) : CS cm X (.AugAssign (.Name x pos') op e pos) (sAug i o f) := fun B tk hp => (ps_aug hN hi hx (h B tk) ho hf).weak fun D σ H ⟨G, env, r, q⟩ => by
  unfold sAug at q
  split at q
  · rename_i d c
    obtain ⟨v, e1, tr⟩ := r.sl i _ c
    refine ⟨v, e1, wantS.bind r q fun d2 env1 G1 H1 v2 e2 r1 y q1 => ?_⟩
    cases cc : o d d2 with
    | none => rw [cc] at q1; exact q1.elim
    | some z =>
      rw [cc] at q1
      exact hr B G1 H1 σ env1 v v2 d d2 z _ r1 (Rp.mono e2 tr) y cc fun G2 H2 v3 e3 r3 y3 => q1 G2 H2 _ e3 (r3.setFz i y3)
  · exact q.elim
end

/-! ### defs -/
inductive FR where
  | ok (d : D) (out : Option (List D)) | exc (x : Xn) (out : Option (List D)) | no
/-- what a def does: the content of the list that its first argument is (if it is one that may change), the other arguments -/
abbrev Fs := Option (List D) → List D → FR
inductive ArgsRel (K : PySem.W.Frag) (cm : Str → Option Addr) (G H : Hp) : List V → Option Addr → Option (List D) → List D → Prop
  | pure {vs : List V} {ds : List D} : Rps K cm G vs ds → ArgsRel K cm G H vs none none ds
  | io {a : Addr} {ws vs : List V} {cs ds : List D} : H a = some (.lst ws) → G a = none → Rps K cm G ws cs → Rps K cm G vs ds → ArgsRel K cm G H (.ref a :: vs) (some a) (some cs) ds
theorem ArgsRel.len {K : PySem.W.Frag} {cm : Str → Option Addr} {G H : Hp} {vs : List V} {own : Option Addr} {io : Option (List D)} {ds : List D} (h : ArgsRel K cm G H vs own io ds) : vs.length = io.toList.length + ds.length := by
  cases h with
  | pure h => simpa using h.length
  | io h1 h2 h3 h4 => simp [h4.length]; omega
def Keep (G H G' H' : Hp) (own : Option Addr) : Prop := ∀ p, H p ≠ none → G p = none → own ≠ some p → G' p = none ∧ H' p = H p
def OutRel (K : PySem.W.Frag) (cm : Str → Option Addr) (G H : Hp) (own : Option Addr) (out : Option (List D)) : Prop := ∀ a, own = some a → ∃ cs ws, out = some cs ∧ H a = some (.lst ws) ∧ G a = none ∧ Rps K cm G ws cs
section
variable (K : PySem.W.Frag) (cm : Str → Option Addr)
def wantF (G H : Hp) (own : Option Addr) (Q : VK) (E : XK) : FR → Prop
  | .ok d out => ∀ G' H' v, Ex G G' → Ex G' H' → Keep G H G' H' own → OutRel K cm G' H' own out → Rp K cm G' v d → Q v H'
  | .exc x out => ∀ G' H' cls dd, Ex G G' → Ex G' H' → Keep G H G' H' own → OutRel K cm G' H' own out → XRel K cm G' H' cls dd x → E cls dd H'
  | .no => False
/-- the promise of a def by its function -/
def spF (n : Nat) (F : Fs) : Sp := fun vs H Q E => vs.length = n ∧ ∃ G own io ds, Ex G H ∧ ArgsRel K cm G H vs own io ds ∧ wantF K cm G H own Q E (F io ds)
end
/-- a def's function: N names, np parameters, its body -/
def finF (io : Option (List D)) (env : Vs.Env) : Option (Option (List D)) := match io with
  | none => some none
  | some _ => match (env[0]? : Option (Option T)) with
    | some (some (T.ol (some 0) cs)) => some (some cs)
    | _ => none
def env0 (nN : Nat) (io : Option (List D)) (ds : List D) : Vs.Env := (io.toList.map fun cs => some (T.ol (some 0) cs)) ++ (ds.map fun d => some (T.fz d)) ++ List.replicate (nN - (io.toList.length + ds.length)) none
def runF (nN : Nat) (g : MS) : Fs := fun io ds => match g (env0 nN io ds) with
  | .next env => match finF io env with
    | some out => .ok .non out
    | none => .no
  | .ret d env => match finF io env with
    | some out => .ok d out
    | none => .no
  | .exc x env => match finF io env with
    | some out => .exc x out
    | none => .no
  | _ => .no
section
variable {P : Program} {w : World} {K : PySem.W.Frag} {cm : Str → Option Addr} {mg : Str → Option Value} {base : Heap}
def B0 (G H : Hp) (own : Option Addr) (E : XK) : Base := ⟨fun p => H p ≠ none ∧ G p = none ∧ own ≠ some p, H, fun _ => own, fun cls d _ H => E cls d H⟩
theorem rel_start {N : List Str} {G H : Hp} {vs : List V} {own : Option Addr} {io : Option (List D)} {ds : List D} {E : XK} (ex : Ex G H) (ar : ArgsRel K cm G H vs own io ds) : Rel K cm (B0 G H own E) G H (L2.start N vs) (env0 N.length io ds) := by
  have hl := ar.len
  have nol : ∀ {l : List D} {m : Nat} {i : Nat} {k : Option Nat} {cs : List D}, ((l.map fun d => some (T.fz d)) ++ List.replicate m none)[i]? = some (some (T.ol k cs)) → False := fun {l m i k cs} h => by
    rw [List.getElem?_append] at h
    split at h
    · rw [List.getElem?_map] at h
      cases q : l[i]? with
      | none => rw [q] at h; cases h
      | some d => rw [q] at h; cases h
    · rw [List.getElem?_replicate] at h
      split at h <;> cases h
  have fzs : ∀ {l : List D} {us : List V} {m : Nat} {i : Nat} {t : T}, Rps K cm G us l → ((l.map fun d => some (T.fz d)) ++ List.replicate m none)[i]? = some (some t) → ∃ v d, t = .fz d ∧ (us.map some ++ List.replicate m none)[i]? = some (some v) ∧ Rp K cm G v d := fun {l us m i t} hs h => by
    rw [List.getElem?_append] at h
    split at h
    · rename_i hi
      rw [List.length_map] at hi
      rw [List.getElem?_map] at h
      cases q : l[i]? with
      | none => rw [q] at h; cases h
      | some d =>
        rw [q] at h
        cases h
        obtain ⟨v, e, y⟩ := hs.get q
        refine ⟨v, d, rfl, ?_, y⟩
        rw [List.getElem?_append_left (by rw [List.length_map, hs.length]; exact hi), List.getElem?_map, e]
        rfl
    · rw [List.getElem?_replicate] at h
      split at h <;> cases h
  cases ar with
  | pure hs =>
    refine ⟨ex, ?_, fun i t e => ?_, fun i j a k cs k' cs' e1 e2 e3 e4 => ?_, fun p hp => ⟨hp.2.1, rfl, hp.1⟩⟩
    · have hl' : vs.length = ds.length := by simpa using hl
      simp [L2.start, env0, hl']
    · obtain ⟨v, d, rfl, e1, y⟩ := fzs (m := N.length - vs.length) hs (by
        have : env0 N.length none ds = (ds.map fun d => some (T.fz d)) ++ List.replicate (N.length - vs.length) none := by
          have hl' : vs.length = ds.length := by simpa using hl
          simp [env0, hl']
        rw [← this]; exact e)
      exact ⟨v, e1, y⟩
    · have : env0 N.length none ds = (ds.map fun d => some (T.fz d)) ++ List.replicate (N.length - ds.length) none := by simp [env0]
      rw [this] at e1
      exact (nol e1).elim
  | @io a ws vs cs ds h1 h2 h3 h4 =>
    have hl' : vs.length = ds.length := h4.length
    have e0 : env0 N.length (some cs) ds = some (T.ol (some 0) cs) :: ((ds.map fun d => some (T.fz d)) ++ List.replicate (N.length - (vs.length + 1)) none) := by
      simp [env0, hl', Nat.add_comm]
    have s0 : L2.start N (V.ref a :: vs) = some (.ref a) :: (vs.map some ++ List.replicate (N.length - (vs.length + 1)) none) := by simp [L2.start]
    rw [e0, s0]
    refine ⟨ex, by simp [hl'], fun i t e => ?_, fun i j b k cs k' cs' e1 e2 e3 e4 => ?_, fun p hp => ⟨hp.2.1, rfl, hp.1⟩⟩
    · cases i with
      | zero =>
        have e : some (some (T.ol (some 0) cs)) = some (some t) := e
        cases e
        exact ⟨.ref a, rfl, a, ws, rfl, h1, h2, h3, fun hp => hp.2.2 rfl, fun j _ => rfl⟩
      | succ i =>
        obtain ⟨v, d, rfl, e1, y⟩ := fzs h4 (by simpa using e)
        exact ⟨v, by simpa using e1, y⟩
    · cases i with
      | zero =>
        cases j with
        | zero => rfl
        | succ j => exact (nol (by simpa using e2)).elim
      | succ i => exact (nol (by simpa using e1)).elim
theorem finF_out {B : Base} {G H : Hp} {σ : L2.St} {env : Vs.Env} {own : Option Addr} {io out : Option (List D)} (r : Rel K cm B G H σ env) (hi : B.ins 0 = own) (hn : io = none → own = none) (e : finF io env = some out) : OutRel K cm G H own out := fun a ha => by
  unfold finF at e
  cases io with
  | none => rw [hn rfl] at ha; cases ha
  | some cs0 =>
    dsimp only at e
    split at e
    · rename_i cs c
      cases e
      obtain ⟨v, e1, tr⟩ := r.sl 0 _ c
      obtain ⟨a', ws, rfl, h1, h2, h3, h4, h5⟩ := tr
      have := h5 0 rfl
      rw [hi, ha] at this
      cases this
      exact ⟨cs, ws, rfl, h1, h2, h3⟩
    · cases e
/-- THE RULE for a def -/
theorem fnOk {x qual : Str} {params : Arguments} {fbody : List Stmt} {scope : Scope} {dvs : List V} {kws : List (Str × V)} {f : Addr} {fd : FuncData} {N ps : List Str} {k : Nat} {g : MS} (F : FunD K x qual params fbody scope dvs kws f fd) (S : FnScope N ps scope)
    (body : ∀ (cdv : Value) (A : Around) (outer : List PySem.Env) (s : Shared) (H : Hp) (E : XK), Room k (A.deeper (envOfC qual scope s.heap.objs.size f cdv)) → A.guards = some [] → CSs cm (cxOf (L2.CX P w) P w K mg base N qual scope f cdv A outer s H E) fbody g) :
    FnG P w K mg base (k + 1) f fd ps (spF K cm ps.length (runF N.length g)) := by
  obtain ⟨oc, od, dV, kV, doc, pm, an, cdv, ct, osl, rfl, lk, hcd, _, _⟩ := F.ex
  exact fnG_of lk hcd S (fun vs H Q E h => h.1) fun A outer s H vs Q E hr hgd ⟨hl, G, own, io, ds, ex, ar, q⟩ => by
    refine ⟨_, body cdv A outer s H E hr hgd (B0 G H own E) (takes_of rfl rfl rfl rfl) (passes_of rfl), G, env0 N.length io ds, rel_start ex ar, ?_⟩
    have hn : io = none → own = none := fun e => by cases ar <;> first | rfl | cases e
    have kp : ∀ {G' H' : Hp} {σ' : L2.St} {env' : Vs.Env}, Rel K cm (B0 G H own E) G' H' σ' env' → Keep G H G' H' own := fun {G' H' σ' env'} r p h1 h2 h3 => by
      obtain ⟨q1, q2, _⟩ := r.pr p ⟨h1, h2, h3⟩
      exact ⟨q1, q2⟩
    unfold runF at q
    cases c : g (env0 N.length io ds) with
    | next env' =>
      rw [c] at q
      dsimp only at q
      cases e : finF io env' with
      | none => rw [e] at q; exact q.elim
      | some out => rw [e] at q; exact fun G' H' σ' e1 r => q G' H' .non e1 r.ex (kp r) (finF_out r rfl hn e) .non
    | ret d env' =>
      rw [c] at q
      dsimp only at q
      cases e : finF io env' with
      | none => rw [e] at q; exact q.elim
      | some out => rw [e] at q; exact fun G' H' σ' v e1 r y => q G' H' v e1 r.ex (kp r) (finF_out r rfl hn e) y
    | exc x env' =>
      rw [c] at q
      dsimp only at q
      cases e : finF io env' with
      | none => rw [e] at q; exact q.elim
      | some out => rw [e] at q; exact fun G' H' σ' cls dd e1 r y => q G' H' cls dd e1 r.ex (kp r) (finF_out r rfl hn e) y
    | brk env' => rw [c] at q; exact q.elim
    | cont env' => rw [c] at q; exact q.elim
    | retF ds env' => rw [c] at q; exact q.elim
    | no => rw [c] at q; exact q.elim
end
end Vs

set_option Elab.async false
set_option linter.all false
set_option maxRecDepth 100000
set_option maxHeartbeats 4000000
/-! VsF: calls of defs. -/
namespace Vs
open PySem PySem.Spec PyProof.Rows L2 Evl

section
variable {K : PySem.W.Frag} {cm : Str → Option Addr} {B : Base} {G G' H H' : Hp} {σ : L2.St} {env : Vs.Env}
/-- behind a call that left our own lists alone -/
theorem Rel.after (r : Rel K cm B G H σ env) (e1 : Ex G G') (e2 : Ex G' H') (kp : Keep G H G' H' none) : Rel K cm B G' H' σ env := by
  refine ⟨e2, r.len, fun i t e => ?_, r.ap, fun p hp => ?_⟩
  · obtain ⟨v, ev, tr⟩ := r.sl i t e
    refine ⟨v, ev, ?_⟩
    cases t with
    | fz d => exact Rp.mono e1 tr
    | ol k ds =>
      obtain ⟨a, vs, rfl, h1, h2, h3, h4, h5⟩ := tr
      obtain ⟨q1, q2⟩ := kp a (by rw [h1]; exact fun z => nomatch z) h2 (fun z => nomatch z)
      exact ⟨a, vs, rfl, q2.trans h1, q1, Rps.mono e1 h3, h4, h5⟩
  · obtain ⟨h1, h2, h3⟩ := r.pr p hp
    obtain ⟨q1, q2⟩ := kp p (by rw [h2]; exact h3) h1 (fun z => nomatch z)
    exact ⟨q1, q2.trans h2, h3⟩
/-- behind a call that changed the list in slot i -/
theorem Rel.afterIo (r : Rel K cm B G H σ env) {i : Nat} {k : Option Nat} {cs cs' : List D} {a : Addr} {ws : List V} (e : env[i]? = some (some (.ol k cs))) (hi : σ[i]? = some (some (.ref a))) (e1 : Ex G G') (e2 : Ex G' H') (kp : Keep G H G' H' (some a))
    (h1 : H' a = some (.lst ws)) (h2 : G' a = none) (h3 : Rps K cm G' ws cs') : Rel K cm B G' H' σ (env.set i (some (.ol k cs'))) := by
  obtain ⟨v, ev, tr⟩ := r.sl i _ e
  rw [hi] at ev; cases ev
  obtain ⟨a', vs, z, g1, g2, g3, g4, g5⟩ := tr
  cases z
  refine ⟨e2, by simp [r.len], fun j t ej => ?_, fun j j' b k1 ds1 k2 ds2 q1 q2 q3 q4 => ?_, fun p hp => ?_⟩
  · rcases get_set ej with ⟨rfl, e3, _⟩ | ⟨ne, e3⟩
    · cases e3
      exact ⟨.ref a, hi, a, ws, rfl, h1, h2, h3, g4, g5⟩
    · obtain ⟨u, eu, tr⟩ := r.sl j t e3
      refine ⟨u, eu, ?_⟩
      cases t with
      | fz d => exact Rp.mono e1 tr
      | ol k2 ds2 =>
        obtain ⟨b, vs2, rfl, m1, m2, m3, m4, m5⟩ := tr
        have nb : some a ≠ some b := fun z => by
          cases z
          exact ne (r.ap j i a _ _ _ _ e3 e eu hi)
        obtain ⟨q1, q2⟩ := kp b (by rw [m1]; exact fun z => nomatch z) m2 nb
        exact ⟨b, vs2, rfl, q2.trans m1, q1, Rps.mono e1 m3, m4, m5⟩
  · have old : ∀ {j : Nat} {k1 : Option Nat} {ds1 : List D}, (env.set i (some (.ol k cs')))[j]? = some (some (.ol k1 ds1)) → ∃ k0 ds0, env[j]? = some (some (.ol k0 ds0)) := fun {j k1 ds1} q => by
      rcases get_set q with ⟨rfl, _, _⟩ | ⟨_, q⟩
      · exact ⟨_, _, e⟩
      · exact ⟨_, _, q⟩
    obtain ⟨_, _, p1⟩ := old q1
    obtain ⟨_, _, p2⟩ := old q2
    exact r.ap j j' b _ _ _ _ p1 p2 q3 q4
  · obtain ⟨m1, m2, m3⟩ := r.pr p hp
    have np : some a ≠ some p := fun z => by cases z; exact g4 hp
    obtain ⟨q1, q2⟩ := kp p (by rw [m2]; exact m3) m1 np
    exact ⟨q1, q2.trans m2, m3⟩
end

/-- what a call of a def gives -/
def FR.toR (r : FR) (env : Vs.Env) : R D := match r with
  | .ok d _ => .ok d env
  | .exc x _ => .exc x env
  | .no => .no
/-- .. of one that changes the list in slot i -/
def FR.toIo (r : FR) (i : Nat) (k : Option Nat) (env : Vs.Env) : R D := match r with
  | .ok d (some cs) => .ok d (env.set i (some (.ol k cs)))
  | .exc x (some cs) => .exc x (env.set i (some (.ol k cs)))
  | _ => .no
def eCall (n : Nat) (F : Fs) (dds : List D) (l : M (List D)) : M D := fun env => (l env).bind fun ds env1 => if (ds ++ dds).length = n then (F none (ds ++ dds)).toR env1 else .no
def eCallIo (n : Nat) (F : Fs) (i : Nat) (dds : List D) (l : M (List D)) : M D := fun env => match env[i]? with
  | some (some _) => (l env).bind fun ds env1 => match env1[i]? with
    | some (some (.ol k cs)) => if (ds ++ dds).length + 1 = n then (F (some cs) (ds ++ dds)).toIo i k env1 else .no
    | _ => .no
  | _ => .no
section
variable {cm : Str → Option Addr} {X : Cx} {B : Base} {G H : Hp} {σ : L2.St} {env : Vs.Env} {Fn : Fs} {n : Nat} {Q : VK}
/-- the promise of a pure call, from the run's want -/
theorem sp_pure {vs : List V} {ds : List D} (r : Rel X.K cm B G H σ env) (y : Rps X.K cm G vs ds) (hn : ds.length = n) (q : want X.K cm (YV X.K cm) B G σ Q ((Fn none ds).toR env)) : spF X.K cm n Fn vs H Q (WE B.W σ) := by
  refine ⟨y.length.trans hn, G, none, none, ds, r.ex, .pure y, ?_⟩
  cases c : Fn none ds with
  | ok d out =>
    rw [c] at q
    exact fun G' H' v e1 e2 kp _ yv => q G' H' v e1 (r.after e1 e2 kp) yv
  | exc x out =>
    rw [c] at q
    exact fun G' H' cls dd e1 e2 kp _ yx => q G' H' cls dd e1 (r.after e1 e2 kp) yx
  | no => rw [c] at q; exact q
theorem sp_io {i : Nat} {k : Option Nat} {cs : List D} {vs : List V} {ds : List D} {a : Addr} (r : Rel X.K cm B G H σ env) (e : env[i]? = some (some (.ol k cs))) (hi : σ[i]? = some (some (.ref a))) (y : Rps X.K cm G vs ds) (hn : ds.length + 1 = n)
    (q : want X.K cm (YV X.K cm) B G σ Q ((Fn (some cs) ds).toIo i k env)) : spF X.K cm n Fn (.ref a :: vs) H Q (WE B.W σ) := by
  obtain ⟨v, ev, tr⟩ := r.sl i _ e
  rw [hi] at ev; cases ev
  obtain ⟨a', ws, z, g1, g2, g3, g4, g5⟩ := tr
  cases z
  refine ⟨by simp [y.length, hn], G, some a, some cs, ds, r.ex, .io g1 g2 g3 y, ?_⟩
  cases c : Fn (some cs) ds with
  | ok d out =>
    rw [c] at q
    refine fun G' H' v e1 e2 kp ho yv => ?_
    obtain ⟨cs', ws', rfl, h1, h2, h3⟩ := ho a rfl
    exact q G' H' v e1 (r.afterIo e hi e1 e2 kp h1 h2 h3) yv
  | exc x out =>
    rw [c] at q
    refine fun G' H' cls dd e1 e2 kp ho yx => ?_
    obtain ⟨cs', ws', rfl, h1, h2, h3⟩ := ho a rfl
    exact q G' H' cls dd e1 (r.afterIo e hi e1 e2 kp h1 h2 h3) yx
  | no => rw [c] at q; exact q
variable {x : Str} {f : Addr} {fd : FuncData} {k : Nat} {ps : List Str} {e : Expr} {es : List Expr} {l : M (List D)} {dvs : List V} {dds : List D} {dws : List Value} {p pos : Pos}
/-- a callee runs -/
theorem run_fnG {sp : Sp} {E : XK} {pins : List (Addr × Obj)} {s : Shared} {us : List Value} {vs : List V} (F : FnG X.prog X.w X.K X.mg X.base k f fd ps sp) (hr : Room k X.A) (hgd : X.A.guards = some []) (hb : Binds X.K fd ps dws) (hd : Vals dvs dws) (hx : PassesAt (L2.CX X.prog X.w) X σ E)
    (I : Inv X pins σ H s) (r : Vals vs us) (h : sp (vs ++ dvs) H Q E) : wpAny (model X.prog X.w) X.A (call (.ref f) us) (EP X pins σ Q) X.xe s := by
  have rel := r.append hd
  have many : (us ++ dws).length = ps.length := rel.length.symm.trans (F.many _ _ _ _ h)
  refine wpAny_call (codeAny_mono (F.runs X.A X.stack s H ⟨us, []⟩ _ _ Q E hr hgd I.env0 (hb s us I.kIn many) rel h) ?_)
  rintro (e | (_ | _ | _ | u)) s' hq
  · exact hx pins H s e s' I hq
  all_goals first
    | exact I.after hq
    | exact False.elim hq
theorem pe_callG {sp : Sp} {E : L2.St → XK} {t : TA} (F : FnG X.prog X.w X.K X.mg X.base k f fd ps sp) (hr : Room k X.A) (hgd : X.A.guards = some []) (hg : Gl X x) (hm : X.mg x = some (.ref f)) (hk : PySem.W.keepIn X.K (.ref f) = true) (hb : Binds X.K fd ps dws) (hd : Vals dvs dws)
    (hx : ∀ σ, PassesAt (L2.CX X.prog X.w) X σ (E σ)) (ha : PA X (e :: es) t) (hdb : (x == ("__debug__" : Str)) = false := by decide) (he : starEach (e :: es) X.env = (false, eval e X.env) :: starEach es X.env := by rfl)
    (hpl : (backTo pos (starEach es X.env)).any (·.1) = false := by rfl) : PE X (.Call (.Name x p) (e :: es) [] pos) (tCallSD sp dvs E t) where
  run := by
    intro pins s σ H Q I h
    refine wpAny_Call_Name_kw (ld_glob I hg hm ?_ hdb)
    refine PySem.W.callWith_K (h₀ := X.base) I.ok.mod.kin hk (thn (ha.run pos pins s σ H _ I h) ?_) he hpl
    rintro us s1 ⟨vs, H1, I1, r, q⟩
    exact ⟨I1.kIn, run_fnG F hr hgd hb hd (hx σ) I1 r q⟩
/-- f(e, ..) -/
theorem ce_call (F : FnG X.prog X.w X.K X.mg X.base k f fd ps (spF X.K cm n Fn)) (hr : Room k X.A) (hgd : X.A.guards = some []) (hg : Gl X x) (hm : X.mg x = some (.ref f)) (hk : PySem.W.keepIn X.K (.ref f) = true) (hb : Binds X.K fd ps dws) (hd : Vals dvs dws)
    (hdd : ∀ G, Rps X.K cm G dvs dds) (ha : CD cm X (e :: es) l) (hdb : (x == ("__debug__" : Str)) = false := by decide) (he : starEach (e :: es) X.env = (false, eval e X.env) :: starEach es X.env := by rfl)
    (hpl : (backTo pos (starEach es X.env)).any (·.1) = false := by rfl) : CE cm X (.Call (.Name x p) (e :: es) [] pos) (eCall n Fn dds l) := fun B tk =>
  (pe_callG F hr hgd hg hm hk hb hd (fun σ => passAt tk σ) (ha B tk) hdb he hpl).weak fun σ H Q ⟨G, env, r, q⟩ => want.bind r q fun ds env1 G1 H1 vs e1 r1 y q1 => by
    by_cases hn : (ds ++ dds).length = n
    · rw [if_pos hn] at q1
      exact sp_pure r1 (Rps.append y (hdd G1)) hn q1
    · rw [if_neg hn] at q1; exact q1.elim
/-- f() -/
theorem ce_call0 (F : FnG X.prog X.w X.K X.mg X.base k f fd ps (spF X.K cm n Fn)) (hr : Room k X.A) (hgd : X.A.guards = some []) (hg : Gl X x) (hm : X.mg x = some (.ref f)) (hk : PySem.W.keepIn X.K (.ref f) = true) (hb : Binds X.K fd ps dws) (hd : Vals dvs dws)
    (hdd : ∀ G, Rps X.K cm G dvs dds) (hdb : (x == ("__debug__" : Str)) = false := by decide) : CE cm X (.Call (.Name x p) [] [] pos) (eCall n Fn dds eNil) := fun B tk => by
  have h : PE X (.Call (.Name x p) [] [] pos) (tCallSD (spF X.K cm n Fn) dvs (WE B.W) tNil) := by
    refine ⟨fun pins s σ H Q I h => ?_⟩
    refine wpAny_Call_Name_kw (ld_glob I hg hm ?_ hdb)
    exact PySem.W.callWith_K0 I.kIn hk (run_fnG (us := []) F hr hgd hb hd (passAt tk σ) I .nil h)
  exact h.weak fun σ H Q ⟨G, env, r, q⟩ => by
    have q : want X.K cm (YV X.K cm) B G σ Q (if ([] ++ dds).length = n then (Fn none ([] ++ dds)).toR env else .no) := q
    by_cases hn : ([] ++ dds).length = n
    · rw [if_pos hn] at q
      exact sp_pure r (hdd G) hn q
    · rw [if_neg hn] at q; exact q.elim
/-- f(own list, e, ..) -/
theorem ce_callIo (i : Nat) {y : Str} {py : Pos} (F : FnG X.prog X.w X.K X.mg X.base k f fd ps (spF X.K cm n Fn)) (hr : Room k X.A) (hgd : X.A.guards = some []) (hg : Gl X x) (hm : X.mg x = some (.ref f)) (hk : PySem.W.keepIn X.K (.ref f) = true) (hb : Binds X.K fd ps dws) (hd : Vals dvs dws)
    (hdd : ∀ G, Rps X.K cm G dvs dds) (ha : CD cm X es l) (hN : X.N[i]? = some y := by rfl) (hv : Vis X.env.scope y := by first | exact Or.inl rfl | exact Or.inr (Or.inl rfl) | exact Or.inr (Or.inr rfl)) (hd1 : (y == ("__debug__" : Str)) = false := by decide)
    (hcd : (y == ("__classdict__" : Str)) = false := by decide) (hdb : (x == ("__debug__" : Str)) = false := by decide) (hs : starEach (.Name y py :: es) X.env = (false, eval (.Name y py) X.env) :: starEach es X.env := by rfl)
    (hpl : (backTo pos (starEach es X.env)).any (·.1) = false := by rfl) : CE cm X (.Call (.Name x p) (.Name y py :: es) [] pos) (eCallIo n Fn i dds l) := fun B tk =>
  (pe_callG F hr hgd hg hm hk hb hd (fun σ => passAt tk σ) (pa_cons (pe_var (i := i) hN hv hd1 hcd) (ha B tk) hs) hdb hs hpl).weak fun σ H Q ⟨G, env, r, q⟩ => by
    unfold eCallIo at q
    split at q
    · rename_i t0 c0
      obtain ⟨v, ev, _⟩ := r.sl i _ c0
      refine ⟨v, ev, want.bind r q fun ds env1 G1 H1 vs e1 r1 y q1 => ?_⟩
      split at q1
      · rename_i k cs c1
        by_cases hn : (ds ++ dds).length + 1 = n
        · rw [if_pos hn] at q1
          obtain ⟨v', ev', tr⟩ := r1.sl i _ c1
          obtain ⟨a, ws, rfl, _⟩ := id tr
          rw [ev] at ev'; cases ev'
          exact sp_io r1 c1 ev (Rps.append y (hdd G1)) hn q1
        · rw [if_neg hn] at q1; exact q1.elim
      · exact q1.elim
    · exact q.elim

/-! ### keywords -/
variable {ks : List Str} {kws : List Keyword} {m : Nat} {g : List Value → List Value → List Value} {gV : List V → List V → List V} {gD : List D → List D → List D} {lk : M (List D)}
variable (cm X) in
def CK (kws : List Keyword) (f : M (List D)) : Prop := ∀ B : Base, Takes X B.W → PK X kws (tG X.K cm (YD X.K cm) B f)
theorem _root_.L2.PK.weak {X : Cx} {e : List Keyword} {t t' : TA} (h : PK X e t) (w : ∀ σ H Q, t' σ H Q → t σ H Q) : PK X e t' := ⟨fun ps pins s σ H Q I q => h.run ps pins s σ H Q I (w _ _ _ q)⟩
theorem ck_nil : CK cm X [] eNil := fun B tk => pk_nil.weak fun σ H Q ⟨G, env, r, q⟩ => q G H [] (Ex.refl G) r .nil
theorem ck_cons {nm : Option Str} {kpos : Pos} {fe : M D} (h : CE cm X e fe) (h2 : CK cm X kws lk) : CK cm X (⟨nm, e, kpos⟩ :: kws) (eCons fe lk) := fun B tk => (pk_cons (h B tk) (h2 B tk)).weak fun σ H Q ⟨G, env, r, q⟩ =>
  want.bind r q fun d env1 G1 H1 v e1 r1 y1 q1 => want.bind r1 q1 fun ds env2 G2 H2 vs e2 r2 y2 q2 => q2 G2 H2 _ (Ex.refl G2) r2 (.cons (Rp.mono e2 y1) y2)
def tCallNS (n m : Nat) (sp : Sp) (gV : List V → List V → List V) (E : L2.St → XK) (t tk : TA) : TE := fun σ H Q => t σ H fun vs H1 => tk σ H1 fun zs H2 => vs.length = n ∧ zs.length = m ∧ sp (gV vs zs) H2 Q (E σ)
theorem run_fnNS {sp : Sp} {E : L2.St → XK} {pins : List (Addr × Obj)} {σ : L2.St} {H : Hp} {s : Shared} {Q : VK} {us ws : List Value} {vs zs : List V} (F : FnG X.prog X.w X.K X.mg X.base k f fd ps sp) (hr : Room k X.A) (hgd : X.A.guards = some []) (hb : KBn X.K fd ps m ks g gV) (hx : PassesAt (L2.CX X.prog X.w) X σ (E σ))
    (I : Inv X pins σ H s) (r : Vals vs us) (rz : Vals zs ws) (l1 : vs.length = m) (l2 : zs.length = ks.length) (h : sp (gV vs zs) H Q (E σ)) : wpAny (model X.prog X.w) X.A (call (.ref f) us (ks.zip ws)) (EP X pins σ Q) X.xe s := by
  have r2 := hb.rel r rz
  refine wpAny_call (codeAny_mono (F.runs X.A X.stack s H ⟨us, ks.zip ws⟩ (g us ws) (gV vs zs) Q (E σ) hr hgd I.env0 (hb.to s us ws I.kIn (r.length.symm.trans l1) (rz.length.symm.trans l2)) r2 h) fun r s' hq => ?_)
  cases r with
  | error e => exact hx pins H s e s' I hq
  | ok fl =>
    cases fl with
    | ret u => exact I.after hq
    | next => exact False.elim hq
    | brk => exact False.elim hq
    | cont => exact False.elim hq
theorem pe_callNS {sp : Sp} {E : L2.St → XK} {t tk : TA} (F : FnG X.prog X.w X.K X.mg X.base k f fd ps sp) (hr : Room k X.A) (hgd : X.A.guards = some []) (hg : Gl X x) (hm : X.mg x = some (.ref f)) (hk : PySem.W.keepIn X.K (.ref f) = true) (hb : KBn X.K fd ps m ks g gV) (hx : ∀ σ, PassesAt (L2.CX X.prog X.w) X σ (E σ))
    (ha : PA X (e :: es) t) (hkw : PK X kws tk) (hall : (backToKw pos (keywordEach kws X.env)).all (·.1.isSome) = true := by rfl) (hks : (backToKw pos (keywordEach kws X.env)).filterMap (·.1) = ks := by rfl)
    (hdb : (x == ("__debug__" : Str)) = false := by decide) (he : starEach (e :: es) X.env = (false, eval e X.env) :: starEach es X.env := by rfl)
    (hpl : ((backTo pos (starEach (e :: es) X.env)).any (·.1) || (backToKw pos (keywordEach kws X.env)).any (·.1.isNone)) = false := by rfl) :
    PE X (.Call (.Name x p) (e :: es) kws pos) (tCallNS m ks.length sp gV E t tk) := by
  refine ⟨fun pins s σ H Q I h => ?_⟩
  refine wpAny_Call_Name_kw (ld_glob I hg hm ?_ hdb)
  refine PySem.W.callWith_KW (h₀ := X.base) I.ok.mod.kin hk hall (thn (ha.run pos pins s σ H _ I h) fun us s1 ⟨vs, H1, I1, r, q⟩ => ?_) hpl he
  refine thn (hkw.run pos pins s1 σ H1 _ I1 q) fun ws s2 ⟨zs, H2, I2, rz, l1, l2, q2⟩ => ⟨I2.kIn, ?_⟩
  rw [hks]
  exact run_fnNS F hr hgd hb (hx σ) I2 r rz l1 l2 q2
theorem pe_callNS0 {sp : Sp} {E : L2.St → XK} {tk : TA} (F : FnG X.prog X.w X.K X.mg X.base k f fd ps sp) (hr : Room k X.A) (hgd : X.A.guards = some []) (hg : Gl X x) (hm : X.mg x = some (.ref f)) (hk : PySem.W.keepIn X.K (.ref f) = true) (hb : KBn X.K fd ps 0 ks g gV) (hx : ∀ σ, PassesAt (L2.CX X.prog X.w) X σ (E σ))
    (hkw : PK X kws tk) (hall : (backToKw pos (keywordEach kws X.env)).all (·.1.isSome) = true := by rfl) (hks : (backToKw pos (keywordEach kws X.env)).filterMap (·.1) = ks := by rfl)
    (hdb : (x == ("__debug__" : Str)) = false := by decide)
    (hpl : ((backTo pos (starEach [] X.env)).any (·.1) || (backToKw pos (keywordEach kws X.env)).any (·.1.isNone)) = false := by rfl) :
    PE X (.Call (.Name x p) [] kws pos) (tCallNS 0 ks.length sp gV E tNil tk) := by
  refine ⟨fun pins s σ H Q I h => ?_⟩
  refine wpAny_Call_Name_kw (ld_glob I hg hm ?_ hdb)
  refine PySem.W.callWith_KW0 (h₀ := X.base) I.ok.mod.kin hk hall ?_ hpl
  refine thn (hkw.run pos pins s σ H _ I h) fun ws s2 ⟨zs, H2, I2, rz, l1, l2, q2⟩ => ⟨I2.kIn, ?_⟩
  rw [hks]
  exact run_fnNS (us := []) (vs := []) F hr hgd hb (hx σ) I2 .nil rz rfl l2 q2
def eCallN (n m mk : Nat) (F : Fs) (gD : List D → List D → List D) (l lk : M (List D)) : M D := fun env => (l env).bind fun ds env1 => (lk env1).bind fun es env2 =>
  if ds.length = m ∧ es.length = mk ∧ (gD ds es).length = n then (F none (gD ds es)).toR env2 else .no
/-- f(e, .., k = v, ..) -/
theorem ce_callN (F : FnG X.prog X.w X.K X.mg X.base k f fd ps (spF X.K cm n Fn)) (hr : Room k X.A) (hgd : X.A.guards = some []) (hg : Gl X x) (hm : X.mg x = some (.ref f)) (hk : PySem.W.keepIn X.K (.ref f) = true) (hb : KBn X.K fd ps m ks g gV)
    (hrel : ∀ G vs ds zs es, Rps X.K cm G vs ds → Rps X.K cm G zs es → Rps X.K cm G (gV vs zs) (gD ds es)) (ha : CD cm X (e :: es) l) (hkw : CK cm X kws lk)
    (hall : (backToKw pos (keywordEach kws X.env)).all (·.1.isSome) = true) (hks : (backToKw pos (keywordEach kws X.env)).filterMap (·.1) = ks)
    (hdb : (x == ("__debug__" : Str)) = false) (he : starEach (e :: es) X.env = (false, eval e X.env) :: starEach es X.env)
    (hpl : ((backTo pos (starEach (e :: es) X.env)).any (·.1) || (backToKw pos (keywordEach kws X.env)).any (·.1.isNone)) = false) (hmk : ks.length = mk) : CE cm X (.Call (.Name x p) (e :: es) kws pos) (eCallN n m mk Fn gD l lk) := fun B tk => by
  subst hmk; exact
  (pe_callNS F hr hgd hg hm hk hb (fun σ => passAt tk σ) (ha B tk) (hkw B tk) hall hks hdb he hpl).weak fun σ H Q ⟨G, env, r, q⟩ => want.bind r q fun ds env1 G1 H1 vs e1 r1 y q1 => want.bind r1 q1 fun es env2 G2 H2 zs e2 r2 y2 q2 => by
    by_cases hn : ds.length = m ∧ es.length = ks.length ∧ (gD ds es).length = n
    · rw [if_pos hn] at q2
      exact ⟨(Rps.length y).trans hn.1, (Rps.length y2).trans hn.2.1, sp_pure r2 (hrel _ _ _ _ _ (Rps.mono e2 y) y2) hn.2.2 q2⟩
    · rw [if_neg hn] at q2; exact q2.elim
theorem ce_callN0 (F : FnG X.prog X.w X.K X.mg X.base k f fd ps (spF X.K cm n Fn)) (hr : Room k X.A) (hgd : X.A.guards = some []) (hg : Gl X x) (hm : X.mg x = some (.ref f)) (hk : PySem.W.keepIn X.K (.ref f) = true) (hb : KBn X.K fd ps 0 ks g gV)
    (hrel : ∀ G vs ds zs es, Rps X.K cm G vs ds → Rps X.K cm G zs es → Rps X.K cm G (gV vs zs) (gD ds es)) (hkw : CK cm X kws lk)
    (hall : (backToKw pos (keywordEach kws X.env)).all (·.1.isSome) = true) (hks : (backToKw pos (keywordEach kws X.env)).filterMap (·.1) = ks)
    (hdb : (x == ("__debug__" : Str)) = false)
    (hpl : ((backTo pos (starEach [] X.env)).any (·.1) || (backToKw pos (keywordEach kws X.env)).any (·.1.isNone)) = false) (hmk : ks.length = mk) : CE cm X (.Call (.Name x p) [] kws pos) (eCallN n 0 mk Fn gD eNil lk) := fun B tk => by
  subst hmk; exact
  (pe_callNS0 F hr hgd hg hm hk hb (fun σ => passAt tk σ) (hkw B tk) hall hks hdb hpl).weak fun σ H Q ⟨G, env, r, q⟩ => by
    have q : want X.K cm (YV X.K cm) B G σ Q ((lk env).bind fun es env2 => if ([] : List D).length = 0 ∧ es.length = ks.length ∧ (gD [] es).length = n then (Fn none (gD [] es)).toR env2 else .no) := q
    refine want.bind r q fun es env2 G2 H2 zs e2 r2 y2 q2 => ?_
    by_cases hn : ([] : List D).length = 0 ∧ es.length = ks.length ∧ (gD [] es).length = n
    · rw [if_pos hn] at q2
      exact ⟨rfl, (Rps.length y2).trans hn.2.1, sp_pure r2 (hrel _ _ _ _ _ .nil y2) hn.2.2 q2⟩
    · rw [if_neg hn] at q2; exact q2.elim
end
end Vs

set_option Elab.async false
set_option linter.all false
set_option maxRecDepth 100000
set_option maxHeartbeats 4000000
/-! VsG: what is walked; for, while, comprehensions. -/
namespace Vs
open PySem PySem.Spec PyProof.Rows L2 Evl

/-- an iterator that gives the data ds, one by one -/
structure ItD (K : PySem.W.Frag) (cm : Str → Option Addr) (J : It) (G : Hp) (ds : List D) : Prop where
  go : ∀ (B : Base) (G' H' : Hp) (σ : L2.St) (env : Vs.Env) (i : Nat), Ex G G' → Rel K cm B G' H' σ env → i < ds.length → J.go i H'
  stop : ∀ (B : Base) (G' H' : Hp) (σ : L2.St) (env : Vs.Env), Ex G G' → Rel K cm B G' H' σ env → J.stop ds.length H'
  yld : ∀ (B : Base) (G' H' : Hp) (σ : L2.St) (env : Vs.Env) (i : Nat) (d : D) (x : V) (H'' : Hp), Ex G G' → Rel K cm B G' H' σ env → ds[i]? = some d → J.yld i H' x H'' → ∃ G'', Ex G' G'' ∧ Rel K cm B G'' H'' σ env ∧ Rp K cm G'' x d
theorem ItD.mono {K : PySem.W.Frag} {cm : Str → Option Addr} {J : It} {G G1 : Hp} {ds : List D} (h : ItD K cm J G ds) (e : Ex G G1) : ItD K cm J G1 ds :=
  ⟨fun B G' H' σ env i e1 => h.go B G' H' σ env i (e.trans e1), fun B G' H' σ env e1 => h.stop B G' H' σ env (e.trans e1), fun B G' H' σ env i d x H'' e1 => h.yld B G' H' σ env i d x H'' (e.trans e1)⟩
section
variable {K : PySem.W.Frag} {cm : Str → Option Addr} {G : Hp} {vs : List V} {ds : List D} {a b : Addr}
theorem Rps.lt {i : Nat} (h : Rps K cm G vs ds) (hi : i < ds.length) : ∃ v, vs[i]? = some v := by
  rw [← h.length] at hi
  exact ⟨_, List.getElem?_eq_getElem hi⟩
theorem itd_list (h : G a = some (.lst vs)) (hs : Rps K cm G vs ds) : ItD K cm (Itl K a) G ds where
  go := fun B G' H' σ env i e r hi => by
    obtain ⟨v, ev⟩ := hs.lt hi
    exact ⟨vs, v, SqL.of (r.ex _ _ (e _ _ h)), ev⟩
  stop := fun B G' H' σ env e r => ⟨vs, SqL.of (r.ex _ _ (e _ _ h)), by rw [hs.length]; exact Nat.le_refl _⟩
  yld := fun B G' H' σ env i d x H'' e r ei y => by
    obtain ⟨rfl, f⟩ := y
    obtain ⟨v, ev, yv⟩ := hs.get ei
    have := f vs (SqL.of (r.ex _ _ (e _ _ h)))
    rw [ev] at this
    cases this
    exact ⟨G', Ex.refl _, r, yv.mono e⟩
theorem itd_tup (h : SqT K G a vs) (hs : Rps K cm G vs ds) : ItD K cm (Itt K a) G ds where
  go := fun B G' H' σ env i e r hi => by
    obtain ⟨v, ev⟩ := hs.lt hi
    exact ⟨vs, v, ex_t (e.trans r.ex) h, ev⟩
  stop := fun B G' H' σ env e r => ⟨vs, ex_t (e.trans r.ex) h, by rw [hs.length]; exact Nat.le_refl _⟩
  yld := fun B G' H' σ env i d x H'' e r ei y => by
    obtain ⟨rfl, f⟩ := y
    obtain ⟨v, ev, yv⟩ := hs.get ei
    have := f vs (ex_t (e.trans r.ex) h)
    rw [ev] at this
    cases this
    exact ⟨G', Ex.refl _, r, yv.mono e⟩
/-- lo, lo + 1, .. -/
def rngD (lo : Int) (n : Nat) : List D := (List.range n).map fun i : Nat => D.int (lo + (i : Int))
theorem rngD_length (lo : Int) (n : Nat) : (rngD lo n).length = n := by simp [rngD]
theorem itd_rng (lo : Int) (n : Nat) : ItD K cm (Itr lo n) G (rngD lo n) where
  go := fun B G' H' σ env i e r hi => by rw [rngD_length] at hi; exact hi
  stop := fun B G' H' σ env e r => by rw [rngD_length]; exact Nat.le_refl _
  yld := fun B G' H' σ env i d x H'' e r ei y => by
    obtain ⟨rfl, rfl⟩ := y
    unfold rngD at ei
    rw [List.getElem?_map] at ei
    cases q : (List.range n)[i]? with
    | none => rw [q] at ei; cases ei
    | some j =>
      rw [q] at ei
      have hj : i = j := by
        rw [List.getElem?_eq_some_iff] at q
        obtain ⟨h, e⟩ := q
        simpa using e
      cases ei
      subst hj
      exact ⟨G', Ex.refl _, r, .int _⟩
def zipD : List D → List D → List D
  | x :: xs, y :: ys => .tup [x, y] :: zipD xs ys
  | _, _ => []
theorem zipD_length : ∀ (xs ys : List D), (zipD xs ys).length = min xs.length ys.length
  | [], ys => by simp [zipD]
  | x :: xs, [] => by simp [zipD]
  | x :: xs, y :: ys => by simp [zipD, zipD_length xs ys]
theorem zipD_get : ∀ {xs ys : List D} {i : Nat} {d : D}, (zipD xs ys)[i]? = some d → ∃ x y, xs[i]? = some x ∧ ys[i]? = some y ∧ d = .tup [x, y]
  | [], ys, i, d, h => by simp [zipD] at h
  | x :: xs, [], i, d, h => by simp [zipD] at h
  | x :: xs, y :: ys, 0, d, h => by
    have h : some (D.tup [x, y]) = some d := h
    cases h
    exact ⟨x, y, rfl, rfl, rfl⟩
  | x :: xs, y :: ys, i + 1, d, h => zipD_get (xs := xs) (ys := ys) (i := i) (d := d) h
theorem itd_zip {ws : List V} {es : List D} (h : G a = some (.lst vs)) (hs : Rps K cm G vs ds) (h' : G b = some (.lst ws)) (hs' : Rps K cm G ws es) : ItD K cm (Itz K a b) G (zipD ds es) where
  go := fun B G' H' σ env i e r hi => by
    rw [zipD_length] at hi
    obtain ⟨v, ev⟩ := hs.lt (i := i) (by omega)
    obtain ⟨w, ew⟩ := hs'.lt (i := i) (by omega)
    exact ⟨vs, ws, v, w, SqL.of (r.ex _ _ (e _ _ h)), SqL.of (r.ex _ _ (e _ _ h')), ev, ew⟩
  stop := fun B G' H' σ env e r => ⟨vs, ws, SqL.of (r.ex _ _ (e _ _ h)), SqL.of (r.ex _ _ (e _ _ h')), by rw [zipD_length, hs.length, hs'.length]; omega⟩
  yld := fun B G' H' σ env i d x H'' e r ei y => by
    obtain ⟨T, x1, x2, rfl, nT, rfl, f1, f2⟩ := y
    obtain ⟨d1, d2, e1, e2, rfl⟩ := zipD_get ei
    obtain ⟨v, ev, yv⟩ := hs.get e1
    obtain ⟨w, ew, yw⟩ := hs'.get e2
    have q1 := f1 vs (SqL.of (r.ex _ _ (e _ _ h)))
    have q2 := f2 ws (SqL.of (r.ex _ _ (e _ _ h')))
    rw [ev] at q1; cases q1
    rw [ew] at q2; cases q2
    obtain ⟨r2, e3⟩ := r.alloc (o := .tup [x1, x2]) nT
    exact ⟨_, e3, r2, .tup (st_of upd_same) (.cons (yv.mono (e.trans e3)) (.cons (yw.mono (e.trans e3)) .nil))⟩
theorem itd_zipT {ws : List V} {es : List D} (h : SqT K G a vs) (hs : Rps K cm G vs ds) (h' : SqT K G b ws) (hs' : Rps K cm G ws es) : ItD K cm (RZ.ItzT K a b) G (zipD ds es) where
  go := fun B G' H' σ env i e r hi => by
    rw [zipD_length] at hi
    obtain ⟨v, ev⟩ := hs.lt (i := i) (by omega)
    obtain ⟨w, ew⟩ := hs'.lt (i := i) (by omega)
    exact ⟨vs, ws, v, w, ex_t (e.trans r.ex) h, ex_t (e.trans r.ex) h', ev, ew⟩
  stop := fun B G' H' σ env e r => ⟨vs, ws, ex_t (e.trans r.ex) h, ex_t (e.trans r.ex) h', by rw [zipD_length, hs.length, hs'.length]; omega⟩
  yld := fun B G' H' σ env i d x H'' e r ei y => by
    obtain ⟨T, x1, x2, rfl, nT, rfl, f1, f2⟩ := y
    obtain ⟨d1, d2, e1, e2, rfl⟩ := zipD_get ei
    obtain ⟨v, ev, yv⟩ := hs.get e1
    obtain ⟨w, ew, yw⟩ := hs'.get e2
    have q1 := f1 vs (ex_t (e.trans r.ex) h)
    have q2 := f2 ws (ex_t (e.trans r.ex) h')
    rw [ev] at q1; cases q1
    rw [ew] at q2; cases q2
    obtain ⟨r2, e3⟩ := r.alloc (o := .tup [x1, x2]) nT
    exact ⟨_, e3, r2, .tup (st_of upd_same) (.cons (yv.mono (e.trans e3)) (.cons (yw.mono (e.trans e3)) .nil))⟩
def enumD (ds : List D) : List D := zipD (rngD 0 ds.length) ds
theorem itd_enum (h : G a = some (.lst vs)) (hs : Rps K cm G vs ds) : ItD K cm (Ite K a) G (enumD ds) where
  go := fun B G' H' σ env i e r hi => by
    rw [enumD, zipD_length, rngD_length] at hi
    obtain ⟨v, ev⟩ := hs.lt (i := i) (by omega)
    exact ⟨vs, v, SqL.of (r.ex _ _ (e _ _ h)), ev⟩
  stop := fun B G' H' σ env e r => ⟨vs, SqL.of (r.ex _ _ (e _ _ h)), by rw [enumD, zipD_length, rngD_length, hs.length]; omega⟩
  yld := fun B G' H' σ env i d x H'' e r ei y => by
    obtain ⟨T, x1, rfl, nT, rfl, f1⟩ := y
    obtain ⟨d1, d2, e1, e2, rfl⟩ := zipD_get ei
    obtain ⟨v, ev, yv⟩ := hs.get e2
    have q1 := f1 vs (SqL.of (r.ex _ _ (e _ _ h)))
    rw [ev] at q1; cases q1
    unfold rngD at e1
    rw [List.getElem?_map] at e1
    cases q : (List.range ds.length)[i]? with
    | none => rw [q] at e1; cases e1
    | some j =>
      rw [q] at e1
      have hj : i = j := by
        rw [List.getElem?_eq_some_iff] at q
        obtain ⟨h, e⟩ := q
        simpa using e
      cases e1
      subst hj
      obtain ⟨r2, e3⟩ := r.alloc (o := .tup [.int (i : Nat), x1]) nT
      refine ⟨_, e3, r2, .tup (st_of upd_same) (.cons ?_ (.cons (yv.mono (e.trans e3)) .nil))⟩
      have : (0 : Int) + (i : Nat) = (i : Nat) := by omega
      show Rp K cm _ (V.int (i : Nat)) (D.int (0 + (i : Nat)))
      rw [this]
      exact .int _
end

/-! ### iterables -/
section
variable (cm : Str → Option Addr) (X : Cx)
def tI (B : Base) (f : M (List D)) : TI := fun σ H R => ∃ G env, Rel X.K cm B G H σ env ∧ (match f env with
  | .ok ds env' => ∀ G' H' J, Ex G G' → Rel X.K cm B G' H' σ env' → ItD X.K cm J G' ds → R J H'
  | .exc x env' => ∀ G' H' cls dd, Ex G G' → Rel X.K cm B G' H' σ env' → XRel X.K cm G' H' cls dd x → B.W cls dd σ H'
  | .no => False)
def CI (tg iter : Expr) (f : M (List D)) : Prop := ∀ B : Base, Takes X B.W → PI X tg iter (tI cm X B f)
end
theorem _root_.L2.PI.weak {X : Cx} {tg e : Expr} {t t' : TI} (h : PI X tg e t) (w : ∀ σ H Q, t' σ H Q → t σ H Q) : PI X tg e t' := ⟨fun pins s σ H Q I q => h.run pins s σ H Q I (w _ _ _ q)⟩
section
variable {cm : Str → Option Addr} {X : Cx} {B : Base} {G H : Hp} {σ : L2.St} {env : Vs.Env} {e e2 tg : Expr} {f : M D} {pos : Pos} {l : M (List D)}
/-- a part's reading, then the iterator -/
theorem tI.bind {α β : Type} {Y : Hp → L2.St → β → α → Prop} {Q1 : β → Hp → Prop} {R : It → Hp → Prop} {f : M α} {k : α → Vs.Env → Vs.R (List D)} (r : Rel X.K cm B G H σ env)
    (h : match (f env).bind k with
      | .ok ds env' => ∀ G' H' J, Ex G G' → Rel X.K cm B G' H' σ env' → ItD X.K cm J G' ds → R J H'
      | .exc x env' => ∀ G' H' cls dd, Ex G G' → Rel X.K cm B G' H' σ env' → XRel X.K cm G' H' cls dd x → B.W cls dd σ H'
      | .no => False)
    (hk : ∀ a env1 G1 H1 b, Ex G G1 → Rel X.K cm B G1 H1 σ env1 → Y G1 σ b a → (match k a env1 with
      | .ok ds env' => ∀ G' H' J, Ex G1 G' → Rel X.K cm B G' H' σ env' → ItD X.K cm J G' ds → R J H'
      | .exc x env' => ∀ G' H' cls dd, Ex G1 G' → Rel X.K cm B G' H' σ env' → XRel X.K cm G' H' cls dd x → B.W cls dd σ H'
      | .no => False) → Q1 b H1) : tG X.K cm Y B f σ H Q1 := by
  refine ⟨G, env, r, ?_⟩
  cases e : f env with
  | ok a env1 =>
    rw [e] at h
    refine fun G1 H1 b e1 r1 y => hk a env1 G1 H1 b e1 r1 y ?_
    simp only [Vs.R.bind_ok] at h
    split at h
    · exact fun G' H' J e2 => h G' H' J (e1.trans e2)
    · exact fun G' H' c d e2 => h G' H' c d (e1.trans e2)
    · exact h
  | exc x env1 =>
    rw [e] at h
    exact h
  | no =>
    rw [e] at h
    exact h
def eItems (f : M D) : M (List D) := fun env => (f env).bind fun d env1 => match d with
  | .lst xs => .ok xs env1
  | .tup xs => .ok xs env1
  | _ => .no
def iSeq (K : PySem.W.Frag) (tl : TE) : TI := fun σ H R => tl σ H fun x H1 => ∃ a, x = .ref a ∧ (((∃ xs, SqL K H1 a xs) ∧ R (Itl K a) H1) ∨ ((∃ xs, SqT K H1 a xs) ∧ R (Itt K a) H1))
theorem pi_seq {l : Expr} {tl : TE} (hl : PE X l tl) : PI X tg l (iSeq X.K tl) := by
  refine ⟨fun pins s σ H R I h => ?_⟩
  refine thn (hl.run pins s σ H _ I h) fun v s1 ⟨x, H1, I1, r1, q1⟩ => ?_
  obtain ⟨a, e, q1⟩ := q1
  subst e
  have ev : v = .ref a := r1
  subst ev
  rcases q1 with ⟨⟨xs, hq⟩, q⟩ | ⟨⟨xs, hq⟩, q⟩
  · obtain ⟨its, rv, p, hz⟩ := I1.list hq
    refine wpAny_pyIter_list p.isList ?_
    refine ⟨s1.heap.objs.size, [s1.heap.objs.size], _, _, H1, rfl, I1.kept (t' := s1.toks) fun b o e => Heap.get?_push_of_some _ e, turn_list a _, ⟨_, Heap.get?_push_size _ rfl, rfl, rfl⟩, fun b hb => ?_, q⟩
    have e : b = s1.heap.objs.size := by simpa using hb
    subst e
    exact I1.fpOk (Nat.le_refl _) (I1.hok.fresh (Nat.le_refl _))
  · obtain ⟨its, rv, p, hz⟩ := I1.tuple hq
    refine wpAny_pyIter_tuple (show s1.heap.IsTuple a its.toArray from p) ?_
    refine ⟨s1.heap.objs.size, [s1.heap.objs.size], _, _, H1, rfl, I1.kept (t' := s1.toks) fun b o e => Heap.get?_push_of_some _ e, turn_tuple a _, ⟨_, Heap.get?_push_size _ rfl, rfl, rfl⟩, fun b hb => ?_, q⟩
    have e : b = s1.heap.objs.size := by simpa using hb
    subst e
    exact I1.fpOk (Nat.le_refl _) (I1.hok.fresh (Nat.le_refl _))
theorem ci_seq (h : CE cm X e f) : CI cm X tg e (eItems f) := fun B tk => (pi_seq (h B tk)).weak fun σ H R ⟨G, env, r, q⟩ => tI.bind (Y := YV X.K cm) r q fun d env1 G1 H1 v e1 r1 y q1 => by
  cases y <;> try (exact q1.elim)
  · rename_i a vs ds h1 hs
    exact ⟨a, rfl, .inl ⟨⟨vs, SqL.of (r1.ex _ _ h1)⟩, q1 G1 H1 _ (Ex.refl _) r1 (itd_list h1 hs)⟩⟩
  · rename_i a vs ds h1 hs
    exact ⟨a, rfl, .inr ⟨⟨vs, ex_t r1.ex h1⟩, q1 G1 H1 _ (Ex.refl _) r1 (itd_tup h1 hs)⟩⟩
def eRng1 (l : M (List D)) : M (List D) := fun env => (l env).bind fun ds env1 => match ds with
  | [.int j] => if -(2 ^ 62) ≤ j ∧ j < 2 ^ 62 then .ok (rngD 0 j.toNat) env1 else .no
  | _ => .no
theorem ci_rng1 {a : Expr} {p : Pos} (hg : Gl X "range") (hm : X.mg "range" = none) (ha : CD cm X [a] l) (hs : starEach [a] X.env = [(false, eval a X.env)] := by rfl) : CI cm X tg (.Call (.Name "range" p) [a] [] pos) (eRng1 l) := fun B tk =>
  (pi_range1 hg hm (ha B tk) hs).weak fun σ H R ⟨G, env, r, q⟩ => tI.bind (Y := YD X.K cm) r q fun ds env1 G1 H1 vs e1 r1 y q1 => by
    match ds, y, q1 with
    | [.int j], y, q1 =>
      obtain ⟨v, rfl, yv⟩ := y.one
      cases yv
      dsimp only at q1
      by_cases hj : -(2 ^ 62) ≤ j ∧ j < 2 ^ 62
      · rw [if_pos hj] at q1
        exact ⟨j, rfl, hj.1, hj.2, q1 G1 H1 _ (Ex.refl _) r1 (itd_rng 0 j.toNat)⟩
      · rw [if_neg hj] at q1; exact q1.elim
def eRng2 (l : M (List D)) : M (List D) := fun env => (l env).bind fun ds env1 => match ds with
  | [.int i, .int j] => if -(2 ^ 62) ≤ i ∧ i < 2 ^ 62 ∧ -(2 ^ 62) ≤ j ∧ j < 2 ^ 62 then .ok (rngD i (j - i).toNat) env1 else .no
  | _ => .no
theorem ci_rng2 {a b : Expr} {p : Pos} (hg : Gl X "range") (hm : X.mg "range" = none) (ha : CD cm X [a, b] l) (hs : starEach [a, b] X.env = [(false, eval a X.env), (false, eval b X.env)] := by rfl) (hs2 : starEach [b] X.env = [(false, eval b X.env)] := by rfl) :
    CI cm X tg (.Call (.Name "range" p) [a, b] [] pos) (eRng2 l) := fun B tk =>
  (pi_range2 hg hm (ha B tk) hs hs2).weak fun σ H R ⟨G, env, r, q⟩ => tI.bind (Y := YD X.K cm) r q fun ds env1 G1 H1 vs e1 r1 y q1 => by
    match ds, y, q1 with
    | [.int i, .int j], y, q1 =>
      obtain ⟨v, v', rfl, yv, yv'⟩ := y.two
      cases yv; cases yv'
      dsimp only at q1
      by_cases hj : -(2 ^ 62) ≤ i ∧ i < 2 ^ 62 ∧ -(2 ^ 62) ≤ j ∧ j < 2 ^ 62
      · rw [if_pos hj] at q1
        exact ⟨i, j, rfl, hj, q1 G1 H1 _ (Ex.refl _) r1 (itd_rng i (j - i).toNat)⟩
      · rw [if_neg hj] at q1; exact q1.elim
def eZip (l : M (List D)) : M (List D) := fun env => (l env).bind fun ds env1 => match ds with
  | [.lst xs, .lst ys] => .ok (zipD xs ys) env1
  | [.tup xs, .tup ys] => .ok (zipD xs ys) env1
  | _ => .no
theorem ci_zip {p tpos : Pos} {elts : List Expr} {kk : Nat} (hg : Gl X "zip") (hm : X.mg "zip" = none) (ha : CD cm X [e, e2] l)
    (hs : starEach [e, e2] X.env = (false, eval e X.env) :: starEach [e2] X.env := by rfl) (hpl : (backTo pos (starEach [e2] X.env)).any (·.1) = false := by rfl) :
    CI cm X (.Tuple elts kk tpos) (.Call (.Name "zip" p) [e, e2] [] pos) (eZip l) := fun B tk =>
  (RZ.pi_zipA hg hm (ha B tk) hs hpl).weak fun σ H R ⟨G, env, r, q⟩ => tI.bind (Y := YD X.K cm) r q fun ds env1 G1 H1 vs e1 r1 y q1 => by
    match ds, y, q1 with
    | [.lst xs, .lst ys], y, q1 =>
      obtain ⟨v, v', rfl, yv, yv'⟩ := y.two
      cases yv with | lst h1 hs1 => cases yv' with | lst h2 hs2 => exact ⟨_, _, _, _, rfl, .inl ⟨SqL.of (r1.ex _ _ h1), SqL.of (r1.ex _ _ h2), q1 G1 H1 _ (Ex.refl _) r1 (itd_zip h1 hs1 h2 hs2)⟩⟩
    | [.tup xs, .tup ys], y, q1 =>
      obtain ⟨v, v', rfl, yv, yv'⟩ := y.two
      cases yv with | tup h1 hs1 => cases yv' with | tup h2 hs2 => exact ⟨_, _, _, _, rfl, .inr ⟨ex_t r1.ex h1, ex_t r1.ex h2, q1 G1 H1 _ (Ex.refl _) r1 (itd_zipT h1 hs1 h2 hs2)⟩⟩
def eEnum (l : M (List D)) : M (List D) := fun env => (l env).bind fun ds env1 => match ds with
  | [.lst xs] => .ok (enumD xs) env1
  | _ => .no
theorem ci_enum {p tpos : Pos} {elts : List Expr} {kk : Nat} (hg : Gl X "enumerate") (hm : X.mg "enumerate" = none) (ha : CD cm X [e] l)
    (hs : starEach [e] X.env = [(false, eval e X.env)] := by rfl) : CI cm X (.Tuple elts kk tpos) (.Call (.Name "enumerate" p) [e] [] pos) (eEnum l) := fun B tk =>
  (pi_enum hg hm (ha B tk) hs).weak fun σ H R ⟨G, env, r, q⟩ => tI.bind (Y := YD X.K cm) r q fun ds env1 G1 H1 vs e1 r1 y q1 => by
    match ds, y, q1 with
    | [.lst xs], y, q1 =>
      obtain ⟨v, rfl, yv⟩ := y.one
      cases yv with | lst h1 hs1 => exact ⟨_, _, rfl, SqL.of (r1.ex _ _ h1), q1 G1 H1 _ (Ex.refl _) r1 (itd_enum h1 hs1)⟩
end

/-! ### for -/
def loopS (k : D → Vs.Env → Option Vs.Env) (g : MS) : List D → Vs.Env → RS
  | [], env => .next env
  | d :: ds, env => match k d env with
    | none => .no
    | some env1 => match g env1 with
      | .next e => loopS k g ds e
      | .cont e => loopS k g ds e
      | .brk e => .next e
      | .ret d e => .ret d e
      | .exc x e => .exc x e
      | .retF d e => .retF d e
      | .no => .no
def sFor (l : M (List D)) (k : D → Vs.Env → Option Vs.Env) (g : MS) : MS := fun env => (l env).toS fun ds env1 => loopS k g ds env1
section
variable {cm : Str → Option Addr} {X : Cx} {B : Base} {G H : Hp} {σ : L2.St} {env : Vs.Env} {e tg iter c : Expr} {body : List Stmt} {l : M (List D)} {k : D → Vs.Env → Option Vs.Env} {g : MS} {u : M Bool} {pos : Pos}
theorem cs_for {ws : List Nat} (hc : X.calm = true) (hi : CI cm X tg iter l) (hg : CG cm X tg ws k) (hb : CSs cm X body g) (hs : ∀ x, foldedSetIterable iter X.env x = pure x := by intro _; rfl) : CS cm X (.For tg iter body [] pos) (sFor l k g) := fun B tk hp =>
  (ps_for hp hc (hi B tk) (hg B) (hb B tk hp) hs).weak fun Dn σ H ⟨G, env, r, q⟩ => by
    refine ⟨G, env, r, ?_⟩
    unfold sFor at q
    cases c : l env with
    | no => rw [c] at q; exact q
    | exc x env' => rw [c] at q; exact fun G' H' cls dd => q G' H' σ cls dd
    | ok ds env' =>
      rw [c] at q
      have q : wantS X.K cm B G Dn (loopS k g ds env') := q
      refine fun G1 H1 J e1 r1 it => ?_
      refine ⟨fun i m σ H => ∃ G' env', Ex G1 G' ∧ Rel X.K cm B G' H σ env' ∧ i + m = ds.length ∧ wantS X.K cm B G' Dn (loopS k g (ds.drop i) env'), ⟨ds.length, G1, env', Ex.refl _, r1, by omega, by rw [List.drop_zero]; exact wantS.mono e1 q⟩, ?_⟩
      rintro i m σ2 H2 ⟨G2, env2, e2, r2, hm, q2⟩
      by_cases hlt : i < ds.length
      · refine .inr ⟨it.go B G2 H2 σ2 env2 i e2 r2 hlt, ?_⟩
        have hd : ds.drop i = ds[i] :: ds.drop (i + 1) := List.drop_eq_getElem_cons hlt
        rw [hd] at q2
        refine ⟨fun σ' H' => ∃ G' env', Ex G1 G' ∧ Rel X.K cm B G' H' σ' env' ∧ wantS X.K cm B G' Dn (loopS k g (ds.drop (i + 1)) env'), fun σ' H' ⟨G', env', h1, h2, h3⟩ => ⟨m - 1, by omega, G', env', h1, h2, by omega, h3⟩, fun x H3 y => ?_⟩
        obtain ⟨G3, e3, r3, y3⟩ := it.yld B G2 H2 σ2 env2 i ds[i] x H3 e2 r2 (List.getElem?_eq_getElem hlt) y
        unfold loopS at q2
        cases ck : k ds[i] env2 with
        | none => rw [ck] at q2; exact q2.elim
        | some env4 =>
          rw [ck] at q2
          dsimp only at q2
          refine ⟨G3, env2, _, env4, r3, y3, ck, fun G4 H4 σ4 e4 r4 _ => ⟨G4, env4, r4, ?_⟩⟩
          cases cg : g env4 with
          | next e => rw [cg] at q2; exact fun G5 H5 σ5 e5 r5 => ⟨G5, e, ((e2.trans e3).trans e4).trans e5, r5, wantS.mono ((e3.trans e4).trans e5) q2⟩
          | cont e => rw [cg] at q2; exact fun G5 H5 σ5 e5 r5 => ⟨G5, e, ((e2.trans e3).trans e4).trans e5, r5, wantS.mono ((e3.trans e4).trans e5) q2⟩
          | brk e => rw [cg] at q2; exact fun G5 H5 σ5 e5 r5 => q2 G5 H5 σ5 ((e3.trans e4).trans e5) r5
          | ret d e => rw [cg] at q2; exact fun G5 H5 σ5 v e5 r5 => q2 G5 H5 σ5 v ((e3.trans e4).trans e5) r5
          | exc x e => rw [cg] at q2; exact fun G5 H5 σ5 c d e5 r5 => q2 G5 H5 σ5 c d ((e3.trans e4).trans e5) r5
          | retF d e => rw [cg] at q2; exact fun G5 H5 σ5 p vs e5 r5 => q2 G5 H5 σ5 p vs ((e3.trans e4).trans e5) r5
          | no => rw [cg] at q2; exact q2.elim
      · have hi : i = ds.length := by omega
        subst hi
        rw [List.drop_length] at q2
        exact .inl ⟨it.stop B G2 H2 σ2 env2 e2 r2, q2 G2 H2 σ2 (Ex.refl _) r2⟩
/-! ### while -/
def whileS (u : M Bool) (g : MS) : Nat → Vs.Env → RS
  | 0, _ => .no
  | n + 1, env => (u env).toS fun b env1 => if b = true then (match g env1 with
      | .next e => whileS u g n e
      | .cont e => whileS u g n e
      | .brk e => .next e
      | .ret d e => .ret d e
      | .exc x e => .exc x e
      | .retF d e => .retF d e
      | .no => .no) else .next env1
def sWhile (n : Nat) (u : M Bool) (g : MS) : MS := fun env => whileS u g n env
theorem cs_while (n : Nat) (hc : CT cm X c u) (hb : CSs cm X body g) : CS cm X (.While c body [] pos) (sWhile n u g) := fun B tk hp =>
  (ps_while hp (hc B tk) (hb B tk hp)).weak fun Dn σ H ⟨G, env, r, q⟩ => by
    refine ⟨fun m σ H => ∃ G' env', Rel X.K cm B G' H σ env' ∧ wantS X.K cm B G' Dn (whileS u g m env'), ⟨n, G, env, r, q⟩, ?_⟩
    rintro m σ2 H2 ⟨G2, env2, r2, q2⟩
    cases m with
    | zero => exact q2.elim
    | succ m =>
      unfold whileS at q2
      refine wantS.bind r2 q2 fun b env3 G3 H3 b' e3 r3 y3 q3 => ?_
      cases y3
      cases b with
      | false => exact iteF (q3 G3 H3 σ2 (Ex.refl _) r3)
      | true =>
        refine iteT ⟨fun σ' H' => ∃ G' env', Rel X.K cm B G' H' σ' env' ∧ wantS X.K cm B G' Dn (whileS u g m env'), fun σ' H' ⟨G', env', h1, h2⟩ => ⟨m, Nat.lt_succ_self m, G', env', h1, h2⟩, G3, env3, r3, ?_⟩
        rw [if_pos rfl] at q3
        cases cg : g env3 with
        | next e => rw [cg] at q3; exact fun G5 H5 σ5 e5 r5 => ⟨G5, e, r5, wantS.mono e5 q3⟩
        | cont e => rw [cg] at q3; exact fun G5 H5 σ5 e5 r5 => ⟨G5, e, r5, wantS.mono e5 q3⟩
        | brk e => rw [cg] at q3; exact fun G5 H5 σ5 e5 r5 => q3 G5 H5 σ5 e5 r5
        | ret d e => rw [cg] at q3; exact fun G5 H5 σ5 v e5 r5 => q3 G5 H5 σ5 v e5 r5
        | exc x e => rw [cg] at q3; exact fun G5 H5 σ5 c d e5 r5 => q3 G5 H5 σ5 c d e5 r5
        | retF d e => rw [cg] at q3; exact fun G5 H5 σ5 p vs e5 r5 => q3 G5 H5 σ5 p vs e5 r5
        | no => rw [cg] at q3; exact q3.elim
end
end Vs

set_option Elab.async false
set_option linter.all false
set_option maxRecDepth 100000
set_option maxHeartbeats 4000000
/-! VsH: comprehensions; lists of the frame's own. -/
namespace Vs
open PySem PySem.Spec PyProof.Rows L2 Evl

/-! ### comprehensions -/
def wipeE (env : Vs.Env) : List Nat → Vs.Env
  | [] => env
  | v :: vs => (wipeE env vs).set v none
def restE (env env' : Vs.Env) : List Nat → Vs.Env
  | [] => env'
  | v :: vs => (restE env env' vs).set v (env.getD v none)
/-- no own list among the slots -/
def plainE (env : Vs.Env) (vs : List Nat) : Bool := vs.all fun v => match env[v]? with
  | some (some (.ol _ _)) => false
  | _ => true
def loopC (vs : List Nat) (k : D → Vs.Env → Option Vs.Env) (t : M Bool) (el : M D) : List D → Vs.Env → R (List D)
  | [], env => .ok [] env
  | d :: ds, env => match k d env with
    | none => .no
    | some env1 => (t env1).bind fun b env2 => if b = true then (el env2).bind fun y env3 => (loopC vs k t el ds (wipeE env3 vs)).bind fun ys env4 => .ok (y :: ys) env4 else loopC vs k t el ds (wipeE env2 vs)
def eYes : M Bool := fun env => .ok true env
def eLc (vs : List Nat) (l : M (List D)) (k : D → Vs.Env → Option Vs.Env) (t : M Bool) (el : M D) : M D := fun env => (l env).bind fun ds env1 => if plainE env1 vs = true then (match loopC vs k t el ds (wipeE env1 vs) with
  | .ok ys env2 => if ys.length ≤ sizeLine then .ok (.lst ys) (restE env1 env2 vs) else .no
  | _ => .no) else .no

theorem wipeE_length (env : Vs.Env) : ∀ vs, (wipeE env vs).length = env.length
  | [] => rfl
  | v :: vs => by unfold wipeE; rw [List.length_set, wipeE_length env vs]
theorem restE_length (env env' : Vs.Env) : ∀ vs, (restE env env' vs).length = env'.length
  | [] => rfl
  | v :: vs => by unfold restE; rw [List.length_set, restE_length env env' vs]
theorem wipeE_some {env : Vs.Env} {i : Nat} {t : T} : ∀ {vs : List Nat}, (wipeE env vs)[i]? = some (some t) → env[i]? = some (some t) ∧ i ∉ vs
  | [], h => ⟨h, by simp⟩
  | v :: vs, h => by
    unfold wipeE at h
    rcases get_set h with ⟨_, z, _⟩ | ⟨ne, h⟩
    · cases z
    · obtain ⟨h1, h2⟩ := wipeE_some h
      exact ⟨h1, by simp only [List.mem_cons, not_or]; exact ⟨ne, h2⟩⟩
theorem restE_in {env env' : Vs.Env} {i : Nat} : ∀ {vs : List Nat}, i ∈ vs → i < env'.length → (restE env env' vs)[i]? = some (env.getD i none)
  | v :: vs, h, hl => by
    unfold restE
    by_cases e : v = i
    · subst e
      rw [List.getElem?_set_self (by rw [restE_length]; exact hl)]
    · rw [List.getElem?_set_ne e]
      exact restE_in ((List.mem_cons.mp h).resolve_left fun z => e z.symm) hl
theorem restE_out {env env' : Vs.Env} {i : Nat} : ∀ {vs : List Nat}, i ∉ vs → (restE env env' vs)[i]? = env'[i]?
  | [], h => rfl
  | v :: vs, h => by
    unfold restE
    rw [List.getElem?_set_ne (fun e => h (by simp [e]))]
    exact restE_out fun z => h (List.mem_cons_of_mem _ z)
theorem wipe_out2 {σ : L2.St} {i : Nat} : ∀ {vs : List Nat}, i ∉ vs → (wipe σ vs)[i]? = σ[i]?
  | [], _ => rfl
  | v :: vs, h => by
    unfold wipe
    rw [List.getElem?_set_ne (fun e => h (by simp [e]))]
    exact wipe_out2 fun z => h (List.mem_cons_of_mem _ z)
theorem wipe_in {σ : L2.St} {i : Nat} : ∀ {vs : List Nat}, i ∈ vs → i < σ.length → (wipe σ vs)[i]? = some none
  | v :: vs, h, hl => by
    unfold wipe
    by_cases e : v = i
    · subst e
      rw [List.getElem?_set_self (by rw [wipe_length]; exact hl)]
    · rw [List.getElem?_set_ne e]
      exact wipe_in ((List.mem_cons.mp h).resolve_left fun z => e z.symm) hl
theorem wipe_eq {σ σ' : L2.St} {vs : List Nat} (hl : σ'.length = σ.length) (h : ∀ j, j ∉ vs → σ'[j]? = σ[j]?) : wipe σ' vs = wipe σ vs := by
  apply List.ext_getElem?
  intro i
  by_cases hi : i ∈ vs
  · by_cases hz : i < σ.length
    · rw [wipe_in hi hz, wipe_in hi (by omega)]
    · rw [List.getElem?_eq_none (by rw [wipe_length]; omega), List.getElem?_eq_none (by rw [wipe_length]; omega)]
  · rw [wipe_out2 hi, wipe_out2 hi, h i hi]

section
variable {K : PySem.W.Frag} {cm : Str → Option Addr} {B : Base} {G G1 H : Hp} {σ : L2.St} {env : Vs.Env}
/-- within a comprehension whose list stands at Dl -/
def Base.lc (B : Base) (Dl : Addr) (acc : List V) : Base := ⟨fun p => B.prot p ∨ p = Dl, fun p => if p = Dl then some (.lst acc) else B.H0 p, B.ins, fun _ _ _ _ => False⟩
theorem Rel.wipe (r : Rel K cm B G H σ env) (vs : List Nat) : Rel K cm B G H (L2.wipe σ vs) (wipeE env vs) :=
  r.forget (by rw [wipe_length, wipeE_length, r.len]) fun i t h => by
    obtain ⟨h1, h2⟩ := wipeE_some h
    exact ⟨h1, wipe_out2 h2⟩
/-- the comprehension's list comes -/
theorem Rel.toLc (r : Rel K cm B G H σ env) {Dl : Addr} (h : H Dl = none) : Rel K cm (B.lc Dl []) G (upd H Dl (.lst [])) σ env := by
  have r2 := r.fresh (o := .lst []) h
  refine ⟨r2.ex, r2.len, fun i t e => ?_, r2.ap, fun p hp => ?_⟩
  · obtain ⟨v, ev, tr⟩ := r2.sl i t e
    refine ⟨v, ev, ?_⟩
    cases t with
    | fz d => exact tr
    | ol k ds =>
      obtain ⟨a, vs, rfl, h1, h2, h3, h4, h5⟩ := tr
      refine ⟨a, vs, rfl, h1, h2, h3, ?_, h5⟩
      rintro (z | z)
      · exact h4 z
      · obtain ⟨v', ev', tr'⟩ := r.sl i _ e
        rw [ev] at ev'; cases ev'
        obtain ⟨a', vs', z', g1, _⟩ := tr'
        cases z'
        rw [z, h] at g1; cases g1
  · by_cases hd : p = Dl
    · subst hd
      refine ⟨r.free h, by rw [upd_same]; show _ = (if p = p then _ else _); rw [if_pos rfl], ?_⟩
      show (if p = p then _ else _) ≠ none
      rw [if_pos rfl]; exact fun z => nomatch z
    · have hp' : B.prot p := hp.resolve_right hd
      obtain ⟨h1, h2, h3⟩ := r2.pr p hp'
      have e : (B.lc Dl []).H0 p = B.H0 p := if_neg hd
      rw [e]
      exact ⟨h1, h2, h3⟩
/-- it grows -/
theorem Rel.lcPut {Dl : Addr} {acc acc' : List V} (r : Rel K cm (B.lc Dl acc) G H σ env) : Rel K cm (B.lc Dl acc') G (upd H Dl (.lst acc')) σ env ∧ H Dl = some (.lst acc) ∧ G Dl = none := by
  have hD : H Dl = some (.lst acc) ∧ G Dl = none := by
    obtain ⟨h1, h2, h3⟩ := r.pr Dl (.inr rfl)
    have e : (B.lc Dl acc).H0 Dl = some (.lst acc) := if_pos rfl
    rw [e] at h2
    exact ⟨h2, h1⟩
  refine ⟨⟨fun b u q => ?_, r.len, fun i t e => ?_, r.ap, fun p hp => ?_⟩, hD⟩
  · have ne : b ≠ Dl := fun z => by rw [z, hD.2] at q; cases q
    rw [upd_ne ne]; exact r.ex b u q
  · obtain ⟨v, ev, tr⟩ := r.sl i t e
    refine ⟨v, ev, ?_⟩
    cases t with
    | fz d => exact tr
    | ol k ds =>
      obtain ⟨a, vs, rfl, h1, h2, h3, h4, h5⟩ := tr
      have ne : a ≠ Dl := fun z => h4 (.inr z)
      exact ⟨a, vs, rfl, by rw [upd_ne ne]; exact h1, h2, h3, h4, h5⟩
  · by_cases hd : p = Dl
    · subst hd
      refine ⟨hD.2, by rw [upd_same]; show _ = (if p = p then _ else _); rw [if_pos rfl], ?_⟩
      show (if p = p then _ else _) ≠ none
      rw [if_pos rfl]; exact fun z => nomatch z
    · have e1 : (B.lc Dl acc').H0 p = B.H0 p := if_neg hd
      have e2 : (B.lc Dl acc).H0 p = B.H0 p := if_neg hd
      obtain ⟨h1, h2, h3⟩ := r.pr p hp
      rw [e2] at h2 h3
      rw [e1, upd_ne hd]
      exact ⟨h1, h2, h3⟩
/-- the block ends: its list is data from now on, its names are as they were -/
theorem Rel.ofLc {Dl : Addr} {acc : List V} {vs : List Nat} {env2 : Vs.Env} (nd : ¬ B.prot Dl) (r0 : ∃ H1, Rel K cm B G1 H1 σ env) (e1 : Ex G1 G) (r : Rel K cm (B.lc Dl acc) G H (L2.wipe σ vs) env2) (hp : plainE env vs = true) (hl : env2.length = env.length) :
    Rel K cm B (upd G Dl (.lst acc)) H σ (restE env env2 vs) ∧ Ex G (upd G Dl (.lst acc)) ∧ H Dl = some (.lst acc) := by
  obtain ⟨_, hD, gD⟩ := r.lcPut (acc' := acc)
  obtain ⟨H1, r0⟩ := r0
  have eg : Ex G (upd G Dl (.lst acc)) := Ex.new gD
  -- every slot of the end: an own name as it was ahead, or one of the block's end
  have key : ∀ (i : Nat) (t : T), (restE env env2 vs)[i]? = some (some t) → (i ∈ vs ∧ env[i]? = some (some t) ∧ ∃ d, t = .fz d) ∨ (i ∉ vs ∧ env2[i]? = some (some t)) := fun i t e => by
    by_cases hi : i ∈ vs
    · by_cases hz : i < env2.length
      · rw [restE_in hi hz] at e
        have e2 : env[i]? = some (some t) := by
          have : env.getD i none = some t := by simpa using e
          rw [List.getD_eq_getElem?_getD] at this
          cases q : env[i]? with
          | none => rw [q] at this; cases this
          | some o => rw [q] at this; exact congrArg some this
        refine .inl ⟨hi, e2, ?_⟩
        cases t with
        | fz d => exact ⟨d, rfl⟩
        | ol k ds =>
          unfold plainE at hp
          rw [List.all_eq_true] at hp
          have := hp i hi
          rw [e2] at this
          cases this
      · rw [List.getElem?_eq_none (by rw [restE_length]; omega)] at e; cases e
    · rw [restE_out hi] at e
      exact .inr ⟨hi, e⟩
  refine ⟨⟨fun b u q => ?_, by rw [restE_length, hl, r0.len], fun i t e => ?_, fun i j a k ds k' ds' e1 e2 e3 e4 => ?_, fun p hp => ?_⟩, eg, hD⟩
  · by_cases hb : b = Dl
    · subst hb; rw [upd_same] at q; cases q; exact hD
    · rw [upd_ne hb] at q; exact r.ex b u q
  · rcases key i t e with ⟨hi, e2, d, rfl⟩ | ⟨hi, e2⟩
    · obtain ⟨v, ev, tr⟩ := r0.sl i _ e2
      exact ⟨v, ev, Rp.mono (e1.trans eg) tr⟩
    · obtain ⟨v, ev, tr⟩ := r.sl i t e2
      rw [wipe_out2 hi] at ev
      refine ⟨v, ev, ?_⟩
      cases t with
      | fz d => exact Rp.mono eg tr
      | ol k ds =>
        obtain ⟨a, vs', rfl, h1, h2, h3, h4, h5⟩ := tr
        have ne : a ≠ Dl := fun z => h4 (.inr z)
        exact ⟨a, vs', rfl, h1, by rw [upd_ne ne]; exact h2, Rps.mono eg h3, fun z => h4 (.inl z), h5⟩
  · rcases key i _ e1 with ⟨_, _, d, z⟩ | ⟨hi, q1⟩
    · cases z
    · rcases key j _ e2 with ⟨_, _, d, z⟩ | ⟨hj, q2⟩
      · cases z
      · exact r.ap i j a k ds k' ds' q1 q2 (by rw [wipe_out2 hi]; exact e3) (by rw [wipe_out2 hj]; exact e4)
  · obtain ⟨h1, h2, h3⟩ := r.pr p (.inl hp)
    have ne : p ≠ Dl := fun z => by subst z; exact nd hp
    have e2 : (B.lc Dl acc).H0 p = B.H0 p := if_neg ne
    rw [e2] at h2 h3
    exact ⟨by rw [upd_ne ne]; exact h1, h2, h3⟩

variable {X : Cx} {e elt tg iter : Expr} {es ifs : List Expr} {f el : M D} {l : M (List D)} {u t : M Bool} {pos : Pos}
/-! ### the clause's tests -/
variable (cm X) in
def CTs (ifs : List Expr) (u : M Bool) : Prop := ∀ B : Base, Takes X B.W → PTs X ifs (tG X.K cm YB B u)
theorem _root_.L2.PTs.weak {X : Cx} {e : List Expr} {t t' : TT} (h : PTs X e t) (w : ∀ σ H Q, t' σ H Q → t σ H Q) : PTs X e t' := ⟨fun pins s σ H Q I q => h.run pins s σ H Q I (w _ _ _ q)⟩
theorem cts_nil : CTs cm X [] eYes := fun B tk => pts_nil.weak fun σ H Q ⟨G, env, r, q⟩ => q G H true (Ex.refl _) r rfl
theorem cts_one (h : CT cm X e u) : CTs cm X [e] u := fun B tk => pts_one (h B tk)
/-- some fixed things are whatever fits -/
def tGx {α β : Type} (K : PySem.W.Frag) (cm : Str → Option Addr) (Y : Hp → L2.St → β → α → Prop) (f : M α) : L2.St → Hp → (β → Hp → Prop) → Prop := fun σ H Q => ∃ B : Base, (∀ c d σ H, ¬ B.W c d σ H) ∧ tG K cm Y B f σ H Q
def tGtx (cm : Str → Option Addr) (X : Cx) (ws : List Nat) (k : D → Vs.Env → Option Vs.Env) : TG := fun v σ H Q => ∃ B : Base, tGt cm X B ws k v σ H Q
theorem takes_no {W : WX} (h : ∀ c d σ H, ¬ W c d σ H) : Takes X W := takes0.imp fun c d σ H w => (h c d σ H w).elim
theorem CE.x (h : CE cm X e f) : PE X e (tGx X.K cm (YV X.K cm) f) := ⟨fun pins s σ H Q I ⟨B, tk, q⟩ => (h B (takes_no tk)).run pins s σ H Q I q⟩
theorem CTs.x (h : CTs cm X ifs u) : PTs X ifs (tGx X.K cm YB u) := ⟨fun pins s σ H Q I ⟨B, tk, q⟩ => (h B (takes_no tk)).run pins s σ H Q I q⟩
theorem CG.x {ws : List Nat} {k : D → Vs.Env → Option Vs.Env} (h : CG cm X tg ws k) : PG X tg (tGtx cm X ws k) := ⟨fun pins s σ H v u Q I r ⟨B, q⟩ => (h B).run pins s σ H v u Q I r q⟩
theorem loopC_len {vs : List Nat} {k : D → Vs.Env → Option Vs.Env} : ∀ {ds : List D} {env env2 : Vs.Env} {ys : List D}, loopC vs k t el ds env = .ok ys env2 → ys.length ≤ ds.length
  | [], env, env2, ys, h => by
    have h : R.ok ([] : List D) env = .ok ys env2 := h
    cases h
    exact Nat.le_refl _
  | d :: ds, env, env2, ys, h => by
    unfold loopC at h
    cases ck : k d env with
    | none => rw [ck] at h; cases h
    | some env1 =>
      rw [ck] at h
      dsimp only at h
      cases ct : t env1 with
      | no => rw [ct] at h; cases h
      | exc x e => rw [ct] at h; cases h
      | ok b e =>
        rw [ct] at h
        simp only [Vs.R.bind_ok] at h
        split at h
        · cases ce : el e with
          | no => rw [ce] at h; cases h
          | exc x e => rw [ce] at h; cases h
          | ok y e3 =>
            rw [ce] at h
            simp only [Vs.R.bind_ok] at h
            cases cr : loopC vs k t el ds (wipeE e3 vs) with
            | no => rw [cr] at h; cases h
            | exc x e => rw [cr] at h; cases h
            | ok zs e4 =>
              rw [cr] at h
              cases h
              have := loopC_len cr
              simp only [List.length_cons]
              omega
        · have := loopC_len h
          simp only [List.length_cons]
          omega
/-- what follows a comprehension's reading; Dl: the new list -/
theorem tLc_of {wi : TI} {vs ws : List Nat} {k : D → Vs.Env → Option Vs.Env} {B : Base} {σ : L2.St} {H : Hp} {Q : VK} (hws : ∀ j ∈ ws, j ∈ vs) (hwi : ∀ σ H R, tI cm X B l σ H R → wi σ H R)
    (q : ∃ G env, Rel X.K cm B G H σ env ∧ (match eLc vs l k t el env with
      | .ok d env' => ∀ ys, d = .lst ys → ∀ G0 G' H' Dl acc, Ex G G0 → G' = upd G0 Dl (.lst acc) → Ex G0 G' → Rel X.K cm B G' H' σ env' → H' Dl = some (.lst acc) → Rps X.K cm G0 acc ys → Q (.ref Dl) H'
      | .exc x env' => ∀ G' H' cls dd, Ex G G' → Rel X.K cm B G' H' σ env' → XRel X.K cm G' H' cls dd x → B.W cls dd σ H'
      | .no => False)) : tLc wi (tGtx cm X ws k) (tGx X.K cm YB t) (tGx X.K cm (YV X.K cm) el) vs σ H Q := by
  obtain ⟨G, env, r, q⟩ := q
  refine hwi σ H _ ⟨G, env, r, ?_⟩
  unfold eLc at q
  cases c : l env with
  | no => rw [c] at q; exact q
  | exc x env' => rw [c] at q; exact q
  | ok ds env1 =>
    rw [c] at q
    simp only [Vs.R.bind_ok] at q
    by_cases hp : plainE env1 vs = true
    · rw [if_pos hp] at q
      cases cl : loopC vs k t el ds (wipeE env1 vs) with
      | no => rw [cl] at q; exact q.elim
      | exc x e => rw [cl] at q; exact q.elim
      | ok ys env2 =>
        rw [cl] at q
        dsimp only at q
        by_cases hz : ys.length ≤ sizeLine
        · rw [if_pos hz] at q
          refine fun G1 H1 J e1 r1 it Dl hD => ?_
          have nd : ¬ B.prot Dl := r1.nprot hD
          refine ⟨fun i m H => ∃ G' envi acc accD rest, Ex G1 G' ∧ Rel X.K cm (B.lc Dl acc) G' H (wipe σ vs) envi ∧ envi.length = env1.length ∧ Rps X.K cm G' acc accD ∧ loopC vs k t el (ds.drop i) envi = .ok rest env2 ∧ accD ++ rest = ys ∧ i + m = ds.length,
            ⟨ds.length, G1, wipeE env1 vs, [], [], ys, Ex.refl _, (r1.toLc hD).wipe vs, wipeE_length _ _, .nil, by rw [List.drop_zero]; exact cl, rfl, by omega⟩, ?_⟩
          rintro i m H2 ⟨G2, env3, acc, accD, rest, e2, r2, hl, hacc, hloop, hys, hm⟩
          by_cases hlt : i < ds.length
          · refine .inr ⟨it.go _ G2 H2 _ env3 i e2 r2 hlt, ?_⟩
            have hd : ds.drop i = ds[i] :: ds.drop (i + 1) := List.drop_eq_getElem_cons hlt
            rw [hd] at hloop
            unfold loopC at hloop
            refine ⟨fun H => ∃ G' envi acc accD rest, Ex G1 G' ∧ Rel X.K cm (B.lc Dl acc) G' H (wipe σ vs) envi ∧ envi.length = env1.length ∧ Rps X.K cm G' acc accD ∧ loopC vs k t el (ds.drop (i + 1)) envi = .ok rest env2 ∧ accD ++ rest = ys, fun H' ⟨G', envi, acc, accD, rest, h1, h2, h3, h4, h5, h6⟩ => ⟨m - 1, by omega, G', envi, acc, accD, rest, h1, h2, h3, h4, h5, h6, by omega⟩, fun x H3 y => ?_⟩
            obtain ⟨G3, e3, r3, y3⟩ := it.yld _ G2 H2 _ env3 i ds[i] x H3 e2 r2 (List.getElem?_eq_getElem hlt) y
            cases ck : k ds[i] env3 with
            | none => rw [ck] at hloop; cases hloop
            | some env4 =>
              rw [ck] at hloop
              dsimp only at hloop
              refine ⟨B.lc Dl acc, G3, env3, _, env4, r3, y3, ck, fun G4 H4 σ4 e4 r4 b4 => ⟨?_, ?_⟩⟩
              · have := wipe_eq (vs := vs) b4.1 fun j hj => b4.2 j fun z => hj (hws j z)
                rw [this]
                exact wipe_eq (wipe_length σ vs) fun j hj => wipe_out2 hj
              · have wσ : wipe σ4 vs = wipe σ vs := by
                  have := wipe_eq (vs := vs) b4.1 fun j hj => b4.2 j fun z => hj (hws j z)
                  rw [this]
                  exact wipe_eq (wipe_length σ vs) fun j hj => wipe_out2 hj
                refine ⟨B.lc Dl acc, fun _ _ _ _ z => z, G4, env4, r4, ?_⟩
                cases ct : t env4 with
                | no => rw [ct] at hloop; cases hloop
                | exc x e => rw [ct] at hloop; cases hloop
                | ok b env5 =>
                  rw [ct] at hloop
                  simp only [Vs.R.bind_ok] at hloop
                  refine fun G5 H5 b' e5 r5 y5 => ?_
                  cases y5
                  have l5 : env5.length = env1.length := by
                    have q1 := r5.len
                    have q2 := b4.1
                    rw [wipe_length] at q2
                    have q3 := r1.len
                    omega
                  by_cases hb : b = true
                  · subst hb
                    rw [if_pos rfl] at hloop
                    refine iteT ⟨B.lc Dl acc, fun _ _ _ _ z => z, G5, env5, r5, ?_⟩
                    cases ce : el env5 with
                    | no => rw [ce] at hloop; cases hloop
                    | exc x e => rw [ce] at hloop; cases hloop
                    | ok yd env6 =>
                      rw [ce] at hloop
                      simp only [Vs.R.bind_ok] at hloop
                      refine fun G6 H6 yv e6 r6 y6 => ?_
                      have l6 : env6.length = env1.length := by
                        have q1 := r6.len
                        have q2 := b4.1
                        rw [wipe_length] at q2
                        have q3 := r1.len
                        omega
                      obtain ⟨r7, hD7, gD7⟩ := r6.lcPut (acc' := acc ++ [yv])
                      cases cr : loopC vs k t el (ds.drop (i + 1)) (wipeE env6 vs) with
                      | no => rw [cr] at hloop; cases hloop
                      | exc x e => rw [cr] at hloop; cases hloop
                      | ok zs e4' =>
                        rw [cr] at hloop
                        have hloop : R.ok (yd :: zs) e4' = .ok rest env2 := hloop
                        cases hloop
                        have e26 : Ex G2 G6 := ((e3.trans e4).trans e5).trans e6
                        have hlen : acc.length < sizeLine := by
                          have h1 := hacc.length
                          have h2 : accD.length + (zs.length + 1) = ys.length := by rw [← hys]; simp
                          omega
                        refine ⟨acc, hD7, hlen, G6, wipeE env6 vs, acc ++ [yv], accD ++ [yd], zs, e2.trans e26, ?_, by rw [wipeE_length]; exact l6, (hacc.mono e26).append (.cons y6 .nil), cr, by rw [← hys]; simp⟩
                        have := r7.wipe vs
                        rw [wσ] at this
                        exact this
                  · have hb' : b = false := by simpa using hb
                    subst hb'
                    rw [if_neg Bool.false_ne_true] at hloop
                    refine iteF ⟨G5, wipeE env5 vs, acc, accD, rest, e2.trans ((e3.trans e4).trans e5), ?_, by rw [wipeE_length]; exact l5, hacc.mono ((e3.trans e4).trans e5), hloop, hys⟩
                    have := r5.wipe vs
                    rw [wσ] at this
                    exact this
          · have hi : i = ds.length := by omega
            subst hi
            rw [List.drop_length] at hloop
            have hloop : R.ok ([] : List D) env3 = .ok rest env2 := hloop
            cases hloop
            rw [List.append_nil] at hys
            subst hys
            refine .inl ⟨it.stop _ G2 H2 _ env2 e2 r2, ?_⟩
            obtain ⟨rr, ee, hh⟩ := Rel.ofLc nd ⟨H1, r1⟩ e2 r2 hp hl
            exact q accD rfl G2 _ H2 Dl acc (e1.trans e2) rfl ee rr hh hacc
        · rw [if_neg hz] at q; exact q.elim
    · rw [if_neg hp] at q; exact q.elim
theorem ce_lc {ws : List Nat} {k : D → Vs.Env → Option Vs.Env} {scope : Scope} {own : List (Str × Nat)} (hc : X.calm = true) (hN : X.N.Nodup) (hi : CI cm X tg iter l) (ok : BlkOk X.N X.env.scope scope own) (hws : ∀ j ∈ ws, j ∈ own.map (·.2))
    (hg : ∀ (s : Shared) (H : Hp) (C : Addr) (cl : List (Str × Addr)) (fp : List Addr), CG cm (X.blk s H scope (compEnvC scope cl C X.env) fp) tg ws k) (ht : ∀ (s : Shared) (H : Hp) (C : Addr) (cl : List (Str × Addr)) (fp : List Addr), CTs cm (X.blk s H scope (compEnvC scope cl C X.env) fp) ifs t)
    (he : ∀ (s : Shared) (H : Hp) (C : Addr) (cl : List (Str × Addr)) (fp : List Addr), CE cm (X.blk s H scope (compEnvC scope cl C X.env) fp) elt el) (hs : ∀ x, foldedSetIterable iter X.env x = pure x := by intro _; rfl) :
    CE cm X (.ListComp elt [⟨tg, iter, ifs, 0⟩] scope pos) (eLc (own.map (·.2)) l k t el) := fun B tk =>
  (pe_lc (g := tGtx cm X ws k) (tt := tGx X.K cm YB t) (te := tGx X.K cm (YV X.K cm) el) hc hN (hi B tk) ok (fun s H C cl fp => (hg s H C cl fp).x) (fun s H C cl fp => (ht s H C cl fp).x) (fun s H C cl fp => (he s H C cl fp).x) hs).weak fun σ H Q ⟨G, env, r, q⟩ => by
    refine tLc_of hws (fun _ _ _ h => h) ⟨G, env, r, ?_⟩
    cases c : eLc (own.map (·.2)) l k t el env with
    | no => rw [c] at q; exact q
    | exc x e => rw [c] at q; exact q
    | ok d env' =>
      rw [c] at q
      refine fun ys hy G0 G' H' Dl acc e1 hG e2 rr hh hacc => q G' H' _ (e1.trans e2) rr ?_
      subst hy; subst hG
      exact .lst upd_same (hacc.mono e2)
/-- name = [..] on one line -/
theorem cs_setLc (i : Nat) {y : Str} {py spos : Pos} {ws : List Nat} {k : D → Vs.Env → Option Vs.Env} {scope : Scope} {own : List (Str × Nat)} (hc : X.calm = true) (hN : X.N.Nodup) (hy : X.N[i]? = some y) (hyl : X.env.scope.names.lookup y = some .local)
    (hsw : swapsWith (.ListComp elt [⟨tg, iter, ifs, 0⟩] scope pos) (some (.Name y py)) spos.line X.env = pure true) (hi : CI cm X tg iter l) (ok : BlkOk X.N X.env.scope scope own) (hws : ∀ j ∈ ws, j ∈ own.map (·.2))
    (hg : ∀ (s : Shared) (H : Hp) (C : Addr) (cl : List (Str × Addr)) (fp : List Addr), CG cm (X.blk s H scope (compEnvC scope cl C X.env) fp) tg ws k) (ht : ∀ (s : Shared) (H : Hp) (C : Addr) (cl : List (Str × Addr)) (fp : List Addr), CTs cm (X.blk s H scope (compEnvC scope cl C X.env) fp) ifs t)
    (he : ∀ (s : Shared) (H : Hp) (C : Addr) (cl : List (Str × Addr)) (fp : List Addr), CE cm (X.blk s H scope (compEnvC scope cl C X.env) fp) elt el) (hs : ∀ x, foldedSetIterable iter X.env x = pure x := by intro _; rfl) :
    CS cm X (.Assign [.Name y py] (.ListComp elt [⟨tg, iter, ifs, 0⟩] scope pos) spos) (sSet i (eLc (own.map (·.2)) l k t el)) := fun B tk hp =>
  (ps_setLc (g := tGtx cm X ws k) (tt := tGx X.K cm YB t) (te := tGx X.K cm (YV X.K cm) el) hc hN hy hyl hsw (hi B tk) ok (fun s H C cl fp => (hg s H C cl fp).x) (fun s H C cl fp => (ht s H C cl fp).x) (fun s H C cl fp => (he s H C cl fp).x) hs).weak fun Dn σ H ⟨G, env, r, q⟩ => by
    refine tLc_of hws (fun _ _ _ h => h) ⟨G, env, r, ?_⟩
    unfold sSet at q
    cases c : eLc (own.map (·.2)) l k t el env with
    | no => rw [c] at q; exact q
    | exc x e => rw [c] at q; exact fun G' H' cls dd => q G' H' σ cls dd
    | ok d env' =>
      rw [c] at q
      refine fun ys hy G0 G' H' Dl acc e1 hG e2 rr hh hacc => q G' H' _ (e1.trans e2) (rr.setFz i ?_)
      subst hy; subst hG
      exact .lst upd_same (hacc.mono e2)
end
end Vs

set_option Elab.async false
set_option linter.all false
set_option maxRecDepth 100000
set_option maxHeartbeats 4000000
/-! VsI: lists of the frame's own: made, read, changed; in. -/
namespace Vs
open PySem PySem.Spec PyProof.Rows L2 Evl

/-! ### x in xs -/
def oIn (neg : Bool) : D → D → Option D
  | x, .lst ys => (pyOf x).bind fun p => (pyOfs ys).bind fun qs => if SeqAt.shaped p = true ∧ SeqAt.shaped (.list qs) = true then some (.bl (xor neg (qs.any fun z => PyData.eqv z p))) else none
  | _, _ => none
section
variable {cm : Str → Option Addr} {X : Cx} {B : Base} {G H : Hp} {σ : L2.St} {env : Vs.Env} {a b c e : Expr} {es : List Expr} {f g h : M D} {u w : M Bool} {pos : Pos} {l : M (List D)}
theorem dps_both {K : PySem.W.Frag} (e : Ex G H) : ∀ {ds : List D} {vs : List V}, Rps K cm G vs ds → ∀ ps, pyOfs ds = some ps → DpAll K H vs ps
  | [], vs, h, ps, q => by
    cases h
    simp only [pyOfs, Option.some.injEq] at q
    subst q; exact .nil
  | d :: ds, vs, h, ps, q => by
    cases h with
    | cons h1 h2 =>
      simp only [pyOfs, Option.bind_eq_some_iff, Option.map_eq_some_iff] at q
      obtain ⟨p, e1, ps', e2, rfl⟩ := q
      exact .cons (dp_both e _ _ h1 p e1) (dps_both e h2 ps' e2)
/-- what may be read here: data, or an own list as it stands -/
def Rb (K : PySem.W.Frag) (cm : Str → Option Addr) (G H : Hp) (v : V) (d : D) : Prop := Rp K cm G v d ∨ ∃ a vs ds, v = .ref a ∧ d = .lst ds ∧ H a = some (.lst vs) ∧ Rps K cm G vs ds
variable (cm X) in
/-- .. an operation whose left side is only read -/
def OpL (r : R2) (o : D → D → Option D) : Prop := ∀ (B : Base) (G H : Hp) (σ : L2.St) (env : Vs.Env) (v1 v2 : V) (d1 d2 d : D) (Q : VK), Rel X.K cm B G H σ env → Rb X.K cm G H v1 d1 → Rp X.K cm G v2 d2 → o d1 d2 = some d →
  (∀ G' H' v, Ex G G' → Rel X.K cm B G' H' σ env → Rp X.K cm G' v d → Q v H') → r v1 v2 H Q
variable (cm X) in
def OpR' (r : R2) (o : D → D → Option D) : Prop := ∀ (B : Base) (G H : Hp) (σ : L2.St) (env : Vs.Env) (v1 v2 : V) (d1 d2 d : D) (Q : VK), Rel X.K cm B G H σ env → Rp X.K cm G v1 d1 → Rb X.K cm G H v2 d2 → o d1 d2 = some d →
  (∀ G' H' v, Ex G G' → Rel X.K cm B G' H' σ env → Rp X.K cm G' v d → Q v H') → r v1 v2 H Q
theorem Rb.dp {K : PySem.W.Frag} {v : V} {d : D} {p : PyData} (ex : Ex G H) (h : Rb K cm G H v d) (e : pyOf d = some p) : Dp K H v p := by
  rcases h with h | ⟨a, vs, ds, rfl, rfl, h1, h2⟩
  · exact dp_both ex _ _ h p e
  · simp only [pyOf, Option.map_eq_some_iff] at e
    obtain ⟨ps, e1, rfl⟩ := e
    exact .lst (SqL.of h1) (dps_both ex h2 ps e1)
theorem Rb.lst {K : PySem.W.Frag} {v : V} {ds : List D} (ex : Ex G H) (h : Rb K cm G H v (.lst ds)) : ∃ a vs, v = .ref a ∧ H a = some (.lst vs) ∧ vs.length = ds.length := by
  rcases h with h | ⟨a, vs, ds, rfl, e, h1, h2⟩
  · cases h with | lst g h => exact ⟨_, _, rfl, ex _ _ g, h.length⟩
  · cases e; exact ⟨_, _, rfl, h1, h2.length⟩
theorem opl_eq : OpL cm X (rEqU X.K) oEq := fun B G H σ env v1 v2 d1 d2 d Q r y1 y2 c q => by
  unfold oEq at c
  split at c
  · obtain ⟨k, hk⟩ := Option.isSome_iff_exists.mp (by assumption)
    rcases y1 with y1 | ⟨a, vs, ds, rfl, rfl, h1, hs⟩
    · obtain ⟨f1, f2⟩ := flat_of y1 y2 hk
      rw [hk] at c
      cases c
      exact .inr (.inr ⟨f1, q G H _ (Ex.refl G) r (by rw [f2]; exact .bl _)⟩)
    · simp [flatEq] at hk
  split at c
  · rename_i hl
    obtain ⟨xs, ys, rfl, rfl, hn⟩ := lenD_of hl
    cases c
    obtain ⟨a, vs, rfl, g1, l1⟩ := y1.lst r.ex
    cases y2 with | lst g2 h2 =>
      exact .inr (.inl ⟨_, _, _, _, rfl, rfl, SqL.of g1, SqL.of (r.ex _ _ g2), by rw [l1, h2.length]; exact hn, q G H _ (Ex.refl G) r (.bl _)⟩)
  simp only [Option.bind_eq_some_iff] at c
  obtain ⟨p, e1, p', e2, c⟩ := c
  split at c
  · rename_i hh
    cases c
    exact .inl ⟨p, p', y1.dp r.ex e1, dp_both r.ex _ _ y2 p' e2, hh.1, hh.2, q G H _ (Ex.refl G) r (.bl _)⟩
  · cases c
theorem opl_ne : OpL cm X (rNeU X.K) oNe := fun B G H σ env v1 v2 d1 d2 d Q r y1 y2 c q => by
  unfold oNe at c
  split at c
  · obtain ⟨k, hk⟩ := Option.isSome_iff_exists.mp (by assumption)
    rcases y1 with y1 | ⟨a, vs, ds, rfl, rfl, h1, hs⟩
    · obtain ⟨f1, f2⟩ := flat_of y1 y2 hk
      rw [hk] at c
      cases c
      exact .inr (.inr ⟨f1, q G H _ (Ex.refl G) r (by rw [f2]; exact .bl _)⟩)
    · simp [flatEq] at hk
  split at c
  · rename_i hl
    obtain ⟨xs, ys, rfl, rfl, hn⟩ := lenD_of hl
    cases c
    obtain ⟨a, vs, rfl, g1, l1⟩ := y1.lst r.ex
    cases y2 with | lst g2 h2 =>
      exact .inr (.inl ⟨_, _, _, _, rfl, rfl, SqL.of g1, SqL.of (r.ex _ _ g2), by rw [l1, h2.length]; exact hn, q G H _ (Ex.refl G) r (.bl _)⟩)
  simp only [Option.bind_eq_some_iff] at c
  obtain ⟨p, e1, p', e2, c⟩ := c
  split at c
  · rename_i hh
    cases c
    exact .inl ⟨p, p', y1.dp r.ex e1, dp_both r.ex _ _ y2 p' e2, hh.1, hh.2, q G H _ (Ex.refl G) r (.bl _)⟩
  · cases c
theorem opl_ix : OpL cm X (rIx X.K) oIx := fun B G H σ env v1 v2 d1 d2 d Q r y1 y2 c q => by
  rcases y1 with y1 | ⟨a, vs, ds, rfl, rfl, h1, hs⟩
  · exact opd_ix B G H σ env v1 v2 d1 d2 d Q r y1 y2 c q
  · cases y2 <;> simp only [oIx] at c <;> try (cases c; done)
    rename_i i
    obtain ⟨v, e1, y⟩ := hs.at c
    exact .inl ⟨a, vs, i, v, rfl, rfl, SqL.of h1, e1, q G H _ (Ex.refl G) r y⟩
theorem opl_add : OpL cm X (rAddU X) oAdd := fun B G H σ env v1 v2 d1 d2 d Q r y1 y2 c q => by
  rcases y1 with y1 | ⟨a, vs, ds, rfl, rfl, h1, hs⟩
  · exact opd_add B G H σ env v1 v2 d1 d2 d Q r y1 y2 c q
  · cases y2 <;> simp only [oAdd] at c <;> try (cases c; done)
    rename_i b ws es h2 hs2
    split at c
    · cases c
      refine .inr (.inr (.inr (.inl ⟨a, b, vs, ws, rfl, rfl, h1, r.ex _ _ h2, by rw [hs.length, hs2.length]; assumption, fun p hp => ?_⟩)))
      obtain ⟨r1, e1⟩ := r.alloc (o := .lst (vs ++ ws)) hp
      exact q _ _ _ e1 r1 (.lst upd_same ((hs.append hs2).mono e1))
    · cases c
theorem opr_in : OpR' cm X (rInD X.K) (oIn false) := fun B G H σ env v1 v2 d1 d2 d Q r y1 y2 c q => by
  cases d2 <;> simp only [oIn] at c <;> try (cases c; done)
  rename_i ys
  simp only [Option.bind_eq_some_iff] at c
  obtain ⟨p, e1, qs, e2, c⟩ := c
  split at c
  · rename_i hh
    cases c
    refine ⟨p, qs, dp_both r.ex _ _ y1 p e1, y2.dp r.ex (by simp [pyOf, e2]), hh.1, hh.2, ?_⟩
    have := q G H (.bl (qs.any fun z => PyData.eqv z p)) (Ex.refl G) r
    rw [Bool.false_xor] at this
    exact this (.bl _)
  · cases c
theorem opr_notIn : OpR' cm X (rNotInD X.K) (oIn true) := fun B G H σ env v1 v2 d1 d2 d Q r y1 y2 c q => by
  cases d2 <;> simp only [oIn] at c <;> try (cases c; done)
  rename_i ys
  simp only [Option.bind_eq_some_iff] at c
  obtain ⟨p, e1, qs, e2, c⟩ := c
  split at c
  · rename_i hh
    cases c
    refine ⟨p, qs, dp_both r.ex _ _ y1 p e1, y2.dp r.ex (by simp [pyOf, e2]), hh.1, hh.2, ?_⟩
    have := q G H (.bl (!(qs.any fun z => PyData.eqv z p))) (Ex.refl G) r
    rw [Bool.true_xor] at this
    exact this (.bl _)
  · cases c
theorem OpR'.opd {r : R2} {o : D → D → Option D} (h : OpR' cm X r o) : OpD cm X r o := fun B G H σ env v1 v2 d1 d2 d Q r y1 y2 c q => h B G H σ env v1 v2 d1 d2 d Q r y1 (.inl y2) c q
/-! ### a name that is only read -/
def rdE (i : Nat) (env : Vs.Env) : Option D := match env[i]? with
  | some (some (.fz d)) => some d
  | some (some (.ol _ ds)) => some (.lst ds)
  | _ => none
theorem Rel.rd {K : PySem.W.Frag} (r : Rel K cm B G H σ env) {i : Nat} {d : D} (h : rdE i env = some d) : ∃ v, σ[i]? = some (some v) ∧ Rb K cm G H v d := by
  unfold rdE at h
  split at h
  · rename_i d' c
    cases h
    obtain ⟨v, ev, tr⟩ := r.sl i _ c
    exact ⟨v, ev, .inl tr⟩
  · rename_i k ds c
    cases h
    obtain ⟨v, ev, tr⟩ := r.sl i _ c
    obtain ⟨a, vs, rfl, h1, h2, h3, _⟩ := tr
    exact ⟨_, ev, .inr ⟨a, vs, ds, rfl, rfl, h1, h3⟩⟩
  · cases h
def eBinL (i : Nat) (o : D → D → Option D) (g : M D) : M D := fun env => match rdE i env with
  | some _ => (g env).bind fun b env1 => R.opt ((rdE i env1).bind fun a => o a b) env1
  | none => .no
theorem tOpL_of {r : R2} {o : D → D → Option D} {i : Nat} {Q : VK} (hr : OpL cm X r o) (q : tG X.K cm (YV X.K cm) B (eBinL i o g) σ H Q) : tOp r (tVar i) (tG X.K cm (YV X.K cm) B g) σ H Q := by
  obtain ⟨G, env, r0, q⟩ := q
  unfold eBinL at q
  split at q
  · rename_i d0 c0
    obtain ⟨v, ev, _⟩ := r0.rd c0
    refine ⟨v, ev, want.bind r0 q fun d2 env1 G1 H1 v2 e1 r1 y1 q1 => ?_⟩
    cases c : rdE i env1 with
    | none => rw [c] at q1; exact q1.elim
    | some d1 =>
      rw [c] at q1
      simp only [Option.bind_some] at q1
      cases cc : o d1 d2 with
      | none => rw [cc] at q1; exact q1.elim
      | some d =>
        rw [cc] at q1
        obtain ⟨v', ev', rb⟩ := r1.rd c
        rw [ev] at ev'; cases ev'
        exact hr B G1 H1 σ env1 v v2 d1 d2 d Q r1 rb y1 cc q1
  · exact q.elim
variable {x : Str} {px p : Pos}
theorem ce_ixN (i : Nat) {r : R2} {o : D → D → Option D} (ho : IxR X r) (hr : OpL cm X r o) (hb : CE cm X b g) (hs : PlainIx b) (hN : X.N[i]? = some x := by rfl) (hv : Vis X.env.scope x := by first | exact Or.inl rfl | exact Or.inr (Or.inl rfl) | exact Or.inr (Or.inr rfl))
    (hd : (x == ("__debug__" : Str)) = false := by decide) (hcd : (x == ("__classdict__" : Str)) = false := by decide) : CE cm X (.Subscript (.Name x px) b pos) (eBinL i o g) := fun B tk =>
  (pe_ix ho (pe_var hN hv hd hcd) (hb B tk) hs).weak fun σ H Q q => tOpL_of hr q
theorem ce_binN (i : Nat) {op : Operator} {r : R2} {o : D → D → Option D} (ho : OpR X (binaryOp op) r) (hr : OpL cm X r o) (hb : CE cm X b g) (hN : X.N[i]? = some x := by rfl) (hv : Vis X.env.scope x := by first | exact Or.inl rfl | exact Or.inr (Or.inl rfl) | exact Or.inr (Or.inr rfl))
    (hd : (x == ("__debug__" : Str)) = false := by decide) (hcd : (x == ("__classdict__" : Str)) = false := by decide) : CE cm X (.BinOp (.Name x px) op b pos) (eBinL i o g) := fun B tk =>
  (pe_op ho (pe_var hN hv hd hcd) (hb B tk)).weak fun σ H Q q => tOpL_of hr q
theorem ce_cmpN (i : Nat) {op : CmpOp} {r : R2} {o : D → D → Option D} (ho : OpR X (compareOp op) r) (hr : OpL cm X r o) (hb : CE cm X b g) (hm : behindInMarks op b = false) (hN : X.N[i]? = some x := by rfl) (hv : Vis X.env.scope x := by first | exact Or.inl rfl | exact Or.inr (Or.inl rfl) | exact Or.inr (Or.inr rfl))
    (hd : (x == ("__debug__" : Str)) = false := by decide) (hcd : (x == ("__classdict__" : Str)) = false := by decide) : CE cm X (.Compare (.Name x px) [op] [b] pos) (eBinL i o g) := fun B tk =>
  (pe_cmpR ho (pe_var hN hv hd hcd) (hb B tk) hm).weak fun σ H Q q => tOpL_of hr q
theorem ct_cmpN (i : Nat) {op : CmpOp} {r : R2} {o : D → D → Option D} (ho : OpR X (compareOp op) r) (hr : OpL cm X r o) (hb : CE cm X b g) (hm : behindInMarks op b = false) (hN : X.N[i]? = some x := by rfl) (hv : Vis X.env.scope x := by first | exact Or.inl rfl | exact Or.inr (Or.inl rfl) | exact Or.inr (Or.inr rfl))
    (hd : (x == ("__debug__" : Str)) = false := by decide) (hcd : (x == ("__classdict__" : Str)) = false := by decide) : CT cm X (.Compare (.Name x px) [op] [b] pos) (eBl (eBinL i o g)) := fun B tk =>
  (pt_cmpR ho (pe_var hN hv hd hcd) (hb B tk) hm).weak fun σ H Q ⟨G, env, r0, q⟩ => by
    refine tOpL_of hr ?_
    refine want.bind r0 q fun d env1 G1 H1 v e1 r1 y q1 => ?_
    cases c : oBl d with
    | none => rw [c] at q1; exact q1.elim
    | some k =>
      rw [c] at q1
      cases d <;> simp only [oBl] at c <;> try (cases c; done)
      cases c
      cases y
      exact ⟨_, rfl, q1 G1 H1 _ (Ex.refl G1) r1 rfl⟩
/-- e in name -/
def eBinR (i : Nat) (o : D → D → Option D) (f : M D) : M D := fun env => (f env).bind fun a env1 => R.opt ((rdE i env1).bind fun b => o a b) env1
theorem tOpR_of {r : R2} {o : D → D → Option D} {i : Nat} {Q : VK} (hr : OpR' cm X r o) (q : tG X.K cm (YV X.K cm) B (eBinR i o f) σ H Q) : tOp r (tG X.K cm (YV X.K cm) B f) (tVar i) σ H Q := by
  obtain ⟨G, env, r0, q⟩ := q
  refine want.bind r0 q fun d1 env1 G1 H1 v1 e1 r1 y1 q1 => ?_
  cases c : rdE i env1 with
  | none => rw [c] at q1; exact q1.elim
  | some d2 =>
    rw [c] at q1
    simp only [Option.bind_some] at q1
    cases cc : o d1 d2 with
    | none => rw [cc] at q1; exact q1.elim
    | some d =>
      rw [cc] at q1
      obtain ⟨v, ev, rb⟩ := r1.rd c
      exact ⟨v, ev, hr B G1 H1 σ env1 v1 v d1 d2 d Q r1 y1 rb cc q1⟩
theorem ce_inN (i : Nat) {op : CmpOp} {r : R2} {o : D → D → Option D} (ho : OpR X (compareOp op) r) (hr : OpR' cm X r o) (ha : CE cm X a f) (hm : behindInMarks op (.Name x px) = false) (hN : X.N[i]? = some x := by rfl) (hv : Vis X.env.scope x := by first | exact Or.inl rfl | exact Or.inr (Or.inl rfl) | exact Or.inr (Or.inr rfl))
    (hd : (x == ("__debug__" : Str)) = false := by decide) (hcd : (x == ("__classdict__" : Str)) = false := by decide) : CE cm X (.Compare a [op] [.Name x px] pos) (eBinR i o f) := fun B tk =>
  (pe_cmpR ho (ha B tk) (pe_var hN hv hd hcd) hm).weak fun σ H Q q => tOpR_of hr q
theorem ct_inN (i : Nat) {op : CmpOp} {r : R2} {o : D → D → Option D} (ho : OpR X (compareOp op) r) (hr : OpR' cm X r o) (ha : CE cm X a f) (hm : behindInMarks op (.Name x px) = false) (hN : X.N[i]? = some x := by rfl) (hv : Vis X.env.scope x := by first | exact Or.inl rfl | exact Or.inr (Or.inl rfl) | exact Or.inr (Or.inr rfl))
    (hd : (x == ("__debug__" : Str)) = false := by decide) (hcd : (x == ("__classdict__" : Str)) = false := by decide) : CT cm X (.Compare a [op] [.Name x px] pos) (eBl (eBinR i o f)) := fun B tk =>
  (pt_cmpR ho (ha B tk) (pe_var hN hv hd hcd) hm).weak fun σ H Q ⟨G, env, r0, q⟩ => by
    refine tOpR_of hr ?_
    refine want.bind r0 q fun d env1 G1 H1 v e1 r1 y q1 => ?_
    cases c : oBl d with
    | none => rw [c] at q1; exact q1.elim
    | some k =>
      rw [c] at q1
      cases d <;> simp only [oBl] at c <;> try (cases c; done)
      cases c
      cases y
      exact ⟨_, rfl, q1 G1 H1 _ (Ex.refl G1) r1 rfl⟩
/-- len(name) -/
def eLenN (i : Nat) : M D := fun env => R.opt ((rdE i env).bind fun d => oLen [d]) env
theorem ce_lenN (i : Nat) (hg : Gl X "len") (hm : X.mg "len" = none) (hN : X.N[i]? = some x := by rfl) (hv : Vis X.env.scope x := by first | exact Or.inl rfl | exact Or.inr (Or.inl rfl) | exact Or.inr (Or.inr rfl))
    (hd : (x == ("__debug__" : Str)) = false := by decide) (hcd : (x == ("__classdict__" : Str)) = false := by decide) (he : starEach [.Name x px] X.env = (false, eval (.Name x px) X.env) :: starEach [] X.env := by rfl) (hpl : (backTo pos (starEach [] X.env)).any (·.1) = false := by rfl) :
    CE cm X (.Call (.Name "len" p) [.Name x px] [] pos) (eLenN i) := fun B tk => (pe_callB call_lenU hg hm boot_len (pa_cons (pe_var (i := i) hN hv hd hcd) pa_nil he) (by decide) (by decide) he hpl).weak fun σ H Q ⟨G, env, r, q⟩ => by
  unfold eLenN at q
  cases c : rdE i env with
  | none => rw [c] at q; exact q.elim
  | some d =>
    rw [c] at q
    simp only [Option.bind_some] at q
    obtain ⟨v, ev, rb⟩ := r.rd c
    refine ⟨v, ev, ?_⟩
    cases cc : oLen [d] with
    | none => rw [cc] at q; exact q.elim
    | some z =>
      rw [cc] at q
      rcases rb with y | ⟨a, vs, ds, rfl, rfl, h1, hs⟩
      · exact cad_len B G H σ env [v] [d] z Q r (.cons y .nil) cc q
      · have : some (D.int (ds.length : Int)) = some z := cc
        cases this
        exact .inl ⟨_, _, rfl, .inl (SqL.of h1), by rw [hs.length]; exact q G H _ (Ex.refl G) r (.int _)⟩
/-- a name as a test -/
def eTruN (i : Nat) : M Bool := fun env => R.opt ((rdE i env).bind oTru) env
theorem ct_truN (i : Nat) (hN : X.N[i]? = some x := by rfl) (hv : Vis X.env.scope x := by first | exact Or.inl rfl | exact Or.inr (Or.inl rfl) | exact Or.inr (Or.inr rfl))
    (hd : (x == ("__debug__" : Str)) = false := by decide) (hcd : (x == ("__classdict__" : Str)) = false := by decide) : CT cm X (.Name x pos) (eTruN i) := fun B tk =>
  (pt_truth (pe_var (i := i) hN hv hd hcd) (by intro _; rfl)).weak fun σ H Q ⟨G, env, r, q⟩ => by
    unfold eTruN at q
    cases c : rdE i env with
    | none => rw [c] at q; exact q.elim
    | some d =>
      rw [c] at q
      simp only [Option.bind_some] at q
      obtain ⟨v, ev, rb⟩ := r.rd c
      cases cc : oTru d with
      | none => rw [cc] at q; exact q.elim
      | some z =>
        rw [cc] at q
        refine ⟨v, ev, z, ?_, q G H z (Ex.refl G) r rfl⟩
        rcases rb with y | ⟨a, vs, ds, rfl, rfl, h1, hs⟩
        · exact tru_of r.ex y cc
        · have : some (!ds.isEmpty) = some z := cc
          cases this
          exact .inl ⟨vs, SqL.of h1, by rw [hs.isEmpty]⟩

/-! ### own lists made -/
variable (cm X) in
/-- an expression that makes a new list -/
def CF (e : Expr) (l : M (List D)) : Prop := ∀ B : Base, Takes X B.W → PE X e (fun σ H Q => ∃ G env, Rel X.K cm B G H σ env ∧ (match l env with
  | .ok ds env' => ∀ G' H' p vs, Ex G G' → Rel X.K cm B G' H' σ env' → H' p = some (.lst vs) → G' p = none → Rps X.K cm G' vs ds → ¬ B.prot p → (∀ (j : Nat) (k : Option Nat) (es : List D), env'[j]? = some (some (.ol k es)) → σ[j]? ≠ some (some (.ref p))) → Q (.ref p) H'
  | .exc x env' => ∀ G' H' cls dd, Ex G G' → Rel X.K cm B G' H' σ env' → XRel X.K cm G' H' cls dd x → B.W cls dd σ H'
  | .no => False))
theorem Rel.notOwned {K : PySem.W.Frag} (r : Rel K cm B G H σ env) {p : Addr} (h : H p = none) (j : Nat) (k : Option Nat) (es : List D) (e : env[j]? = some (some (.ol k es))) : σ[j]? ≠ some (some (.ref p)) := fun z => by
  obtain ⟨v, ev, tr⟩ := r.sl j _ e
  rw [z] at ev; cases ev
  obtain ⟨a, vs, z', g1, _⟩ := tr
  cases z'
  rw [h] at g1; cases g1
def fLst (l : M (List D)) : M (List D) := fun env => (l env).bind fun ds env1 => if ds.length ≤ sizeLine then .ok ds env1 else .no
/-- .. from what the machine gives behind the parts -/
theorem fresh_of {Q : VK} {ds : List D} {vs : List V} (r1 : Rel X.K cm B G H σ env) (y : Rps X.K cm G vs ds) (q : ∀ G' H' p vs, Ex G G' → Rel X.K cm B G' H' σ env → H' p = some (.lst vs) → G' p = none → Rps X.K cm G' vs ds → ¬ B.prot p → (∀ (j : Nat) (k : Option Nat) (es : List D), env[j]? = some (some (.ol k es)) → σ[j]? ≠ some (some (.ref p))) → Q (.ref p) H') :
    ∀ p, H p = none → Q (.ref p) (upd H p (.lst vs)) := fun p hp => q G _ p vs (Ex.refl _) (r1.fresh hp) upd_same (r1.free hp) y (r1.nprot hp) (r1.notOwned hp)
theorem cf_lst (h : CD cm X es l) : CF cm X (.List es pos) (fLst l) := fun B tk => (pe_lst (h B tk)).weak fun σ H Q ⟨G, env, r, q⟩ => by
  refine ⟨G, env, r, ?_⟩
  unfold fLst at q
  cases c : l env with
  | no => rw [c] at q; exact q
  | exc x e => rw [c] at q; exact q
  | ok ds env1 =>
    rw [c] at q
    simp only [Vs.R.bind_ok] at q
    refine fun G1 H1 vs e1 r1 y => ?_
    by_cases hz : ds.length ≤ sizeLine
    · rw [if_pos hz] at q
      exact ⟨by rw [Rps.length y]; exact hz, fresh_of r1 y fun G' H' p vs e2 => q G' H' p vs (e1.trans e2)⟩
    · rw [if_neg hz] at q; exact q.elim
/-- [..] * n -/
def fRep (f g : M D) : M (List D) := fun env => (f env).bind fun a env1 => (g env1).bind fun b env2 => match a, b with
  | .lst xs, .int k => if k < 2 ^ 31 ∧ -(2 ^ 31) < k ∧ xs.length * k.toNat ≤ sizeLine then .ok (List.replicate k.toNat xs).flatten env2 else .no
  | _, _ => .no
theorem cf_rep (ha : CE cm X a f) (hb : CE cm X b g) : CF cm X (.BinOp a .Mult b pos) (fRep f g) := fun B tk => (pe_op op_rep (ha B tk) (hb B tk)).weak fun σ H Q ⟨G, env, r, q⟩ => by
  refine ⟨G, env, r, ?_⟩
  unfold fRep at q
  cases c : f env with
  | no => rw [c] at q; exact q
  | exc x e => rw [c] at q; exact q
  | ok d1 env1 =>
    rw [c] at q
    simp only [Vs.R.bind_ok] at q
    refine fun G1 H1 v1 e1 r1 y1 => ⟨G1, env1, r1, ?_⟩
    cases c2 : g env1 with
    | no => rw [c2] at q; exact q
    | exc x e => rw [c2] at q; exact fun G' H' c d e2 => q G' H' c d (e1.trans e2)
    | ok d2 env2 =>
      rw [c2] at q
      simp only [Vs.R.bind_ok] at q
      refine fun G2 H2 v2 e2 r2 y2 => ?_
      cases y1 <;> cases y2 <;> try (exact q.elim)
      rename_i a vs ds h1 hs k
      dsimp only at q
      by_cases hh : k < 2 ^ 31 ∧ -(2 ^ 31) < k ∧ ds.length * k.toNat ≤ sizeLine
      · rw [if_pos hh] at q
        exact ⟨a, k, vs, rfl, rfl, r2.ex _ _ (e2 _ _ h1), by omega, by omega, by rw [hs.length]; exact hh.2.2, fresh_of r2 ((hs.flat k.toNat).mono e2) fun G' H' p vs e3 => q G' H' p vs ((e1.trans e2).trans e3)⟩
      · rw [if_neg hh] at q; exact q.elim
def sOwn (i : Nat) (l : M (List D)) : MS := fun env => (l env).toS fun ds env1 => .next (env1.set i (some (.ol none ds)))
theorem cs_own (i : Nat) {pos' : Pos} (h : CF cm X e l) (hN : X.N.Nodup) (hi : X.N[i]? = some x := by rfl) (hx : Loc X.env.scope x := by first | exact Or.inl rfl | exact Or.inr rfl) (hs : swapsWith e (some (.Name x pos')) pos.line X.env = pure false := by rfl)
    (hf : X.fn x = true ∨ X.env.scope.names.lookup x = some .local := by first | exact .inl rfl | exact .inr rfl | assumption) : CS cm X (.Assign [.Name x pos'] e pos) (sOwn i l) := fun B tk hp => (ps_set hN hi hx (h B tk) hs hf).weak fun Dn σ H ⟨G, env, r, q⟩ => by
  refine ⟨G, env, r, ?_⟩
  unfold sOwn at q
  cases c : l env with
  | no => rw [c] at q; exact q
  | exc x e => rw [c] at q; exact fun G' H' cls dd => q G' H' σ cls dd
  | ok ds env1 =>
    rw [c] at q
    exact fun G' H' p vs e1 r1 h1 h2 h3 h4 h5 => q G' H' _ e1 (r1.setOl i h1 h2 h3 h4 fun j k es q1 q2 => absurd q2 (h5 j k es q1))

/-! ### own lists changed -/
def ownE (i : Nat) (env : Vs.Env) : Option (Option Nat × List D) := match env[i]? with
  | some (some (.ol k ds)) => some (k, ds)
  | _ => none
theorem ownE_iff {i : Nat} {k : Option Nat} {ds : List D} (h : ownE i env = some (k, ds)) : env[i]? = some (some (.ol k ds)) := by
  unfold ownE at h
  split at h
  · cases h; assumption
  · cases h
/-- name.append(e) -/
def sApp (i : Nat) (f : M D) : MS := fun env => match ownE i env with
  | some _ => (f env).toS fun d env1 => match ownE i env1 with
    | some (k, ds) => if ds.length < sizeLine then .next (env1.set i (some (.ol k (ds ++ [d])))) else .no
    | none => .no
  | none => .no
theorem cs_app (i : Nat) {apos : Pos} (he : CE cm X e f) (hN : X.N[i]? = some x := by rfl) (hv : Vis X.env.scope x := by first | exact Or.inl rfl | exact Or.inr (Or.inl rfl) | exact Or.inr (Or.inr rfl))
    (hd : (x == ("__debug__" : Str)) = false := by decide) (hcd : (x == ("__classdict__" : Str)) = false := by decide) (hse : starEach [e] X.env = (false, eval e X.env) :: starEach [] X.env := by rfl)
    (hbase : attributeBase (.Name x px) "append" X.env (eval (.Name x px) X.env) = eval (.Name x px) X.env := by rfl)
    (hfew : ((backTo p (starEach [e] X.env)).all (fun x => !x.1) && (backToKw p (keywordEach [] X.env)).all (fun x => x.1.isSome)
      && decide ([e].length + ([] : List Keyword).length + (if ([] : List Keyword).isEmpty then 0 else 1) < 30)) = true := by rfl)
    (hline : (apos.endLine == p.line) = true := by rfl) (hplain : (backTo p (starEach [] X.env)).any (·.1) = false := by rfl) (hs : swapsWith (.Call (.Attribute (.Name x px) "append" apos) [e] [] p) none pos.line X.env = pure false := by rfl) :
    CS cm X (.Expr (.Call (.Attribute (.Name x px) "append" apos) [e] [] p) pos) (sApp i f) := fun B tk hp =>
  (ps_expr (pe_bm PySem.F.plainAttrs_list PySem.F.slot_list_append PySem.F.type_list_append mt_append (pe_var (i := i) hN hv hd hcd) (pa_cons (he B tk) pa_nil hse) hbase hfew hline hse hplain) hs).weak fun Dn σ H ⟨G, env, r, q⟩ => by
    unfold sApp at q
    cases c : ownE i env with
    | none => rw [c] at q; exact q.elim
    | some kd =>
      rw [c] at q
      obtain ⟨k, ds⟩ := kd
      obtain ⟨v, ev, tr⟩ := r.sl i _ (ownE_iff c)
      obtain ⟨a, vs, rfl, h1, _⟩ := tr
      refine ⟨_, ev, .inl ⟨rfl, vs, SqL.of h1⟩, wantS.bind r q fun d env1 G1 H1 v1 e1 r1 y q1 => ?_⟩
      cases c1 : ownE i env1 with
      | none => rw [c1] at q1; exact q1.elim
      | some kd =>
        rw [c1] at q1
        obtain ⟨k1, ds1⟩ := kd
        dsimp only at q1
        obtain ⟨v2, ev2, tr⟩ := r1.sl i _ (ownE_iff c1)
        rw [ev] at ev2; cases ev2
        obtain ⟨a', vs1, z, g1, g2, g3, _⟩ := tr
        cases z
        by_cases hz : ds1.length < sizeLine
        · rw [if_pos hz] at q1
          refine ⟨a, vs1, v1, rfl, rfl, g1, by rw [g3.length]; exact hz, ?_⟩
          exact q1 G1 _ σ (Ex.refl _) (r1.write (ownE_iff c1) ev (g3.append (.cons y .nil)))
        · rw [if_neg hz] at q1; exact q1.elim
/-- name.extend(e) -/
def sExt (i : Nat) (f : M D) : MS := fun env => match ownE i env with
  | some _ => (f env).toS fun d env1 => match ownE i env1, d with
    | some (k, ds), .lst es => if ds.length + es.length ≤ sizeLine then .next (env1.set i (some (.ol k (ds ++ es)))) else .no
    | _, _ => .no
  | none => .no
theorem cs_ext (i : Nat) {apos : Pos} (he : CE cm X e f) (hN : X.N[i]? = some x := by rfl) (hv : Vis X.env.scope x := by first | exact Or.inl rfl | exact Or.inr (Or.inl rfl) | exact Or.inr (Or.inr rfl))
    (hd : (x == ("__debug__" : Str)) = false := by decide) (hcd : (x == ("__classdict__" : Str)) = false := by decide) (hse : starEach [e] X.env = (false, eval e X.env) :: starEach [] X.env := by rfl)
    (hbase : attributeBase (.Name x px) "extend" X.env (eval (.Name x px) X.env) = eval (.Name x px) X.env := by rfl)
    (hfew : ((backTo p (starEach [e] X.env)).all (fun x => !x.1) && (backToKw p (keywordEach [] X.env)).all (fun x => x.1.isSome)
      && decide ([e].length + ([] : List Keyword).length + (if ([] : List Keyword).isEmpty then 0 else 1) < 30)) = true := by rfl)
    (hline : (apos.endLine == p.line) = true := by rfl) (hplain : (backTo p (starEach [] X.env)).any (·.1) = false := by rfl) (hs : swapsWith (.Call (.Attribute (.Name x px) "extend" apos) [e] [] p) none pos.line X.env = pure false := by rfl) :
    CS cm X (.Expr (.Call (.Attribute (.Name x px) "extend" apos) [e] [] p) pos) (sExt i f) := fun B tk hp =>
  (ps_expr (pe_bm PySem.F.plainAttrs_list PySem.F.slot_list_extend PySem.F.type_list_extend mt_extend (pe_var (i := i) hN hv hd hcd) (pa_cons (he B tk) pa_nil hse) hbase hfew hline hse hplain) hs).weak fun Dn σ H ⟨G, env, r, q⟩ => by
    unfold sExt at q
    cases c : ownE i env with
    | none => rw [c] at q; exact q.elim
    | some kd =>
      rw [c] at q
      obtain ⟨k, ds⟩ := kd
      obtain ⟨v, ev, tr⟩ := r.sl i _ (ownE_iff c)
      obtain ⟨a, vs, rfl, h1, _⟩ := tr
      refine ⟨_, ev, .inl ⟨rfl, vs, SqL.of h1⟩, wantS.bind r q fun d env1 G1 H1 v1 e1 r1 y q1 => ?_⟩
      cases c1 : ownE i env1 with
      | none => rw [c1] at q1; exact q1.elim
      | some kd =>
        rw [c1] at q1
        obtain ⟨k1, ds1⟩ := kd
        obtain ⟨v2, ev2, tr⟩ := r1.sl i _ (ownE_iff c1)
        rw [ev] at ev2; cases ev2
        obtain ⟨a', vs1, z, g1, g2, g3, _⟩ := tr
        cases z
        match d, y, q1 with
        | .lst es, .lst (a := b) (vs := ws) h2 hs2, q1 =>
          dsimp only at q1
          by_cases hz : ds1.length + es.length ≤ sizeLine
          · rw [if_pos hz] at q1
            refine ⟨a, b, vs1, ws, rfl, rfl, g1, r1.ex _ _ h2, by rw [g3.length, hs2.length]; exact hz, ?_⟩
            exact q1 G1 _ σ (Ex.refl _) (r1.write (ownE_iff c1) ev (g3.append hs2))
          · rw [if_neg hz] at q1; exact q1.elim
/-- name[e] = v -/
def sPut (i : Nat) (fi fv : M D) : MS := fun env => (fv env).toS fun d env1 => match ownE i env1 with
  | some _ => (fi env1).toS fun z env2 => match ownE i env2, z with
    | some (k, ds), .int j => match ixN ds.length j with
      | some n => .next (env2.set i (some (.ol k (ds.set n d))))
      | none => .no
    | _, _ => .no
  | none => .no
theorem cs_put (i : Nat) {tpos : Pos} {fi fv : M D} (hi : CE cm X a fi) (he : CE cm X e fv) (hN : X.N[i]? = some x := by rfl) (hv : Vis X.env.scope x := by first | exact Or.inl rfl | exact Or.inr (Or.inl rfl) | exact Or.inr (Or.inr rfl))
    (hd : (x == ("__debug__" : Str)) = false := by decide) (hcd : (x == ("__classdict__" : Str)) = false := by decide)
    (ha : ∀ v, assign (.Subscript (.Name x px) a tpos) X.env v = (do
      let ov ← holding [v] (eval (.Name x px) X.env)
      let iv ← holding [v, ov] (eval a X.env)
      standAt tpos
      holding [v, ov, iv] (setItem ov iv v)
      release [v, ov, iv] []) := by intro _; rfl)
    (hs : swapsWithSole [.Subscript (.Name x px) a tpos] e pos.line X.env = pure false := by rfl) (hw : swappedStores [.Subscript (.Name x px) a tpos] e X.env = pure none := by rfl)
    (h1 : (assignEach [.Subscript (.Name x px) a tpos] X.env).map (·.2) = [assign (.Subscript (.Name x px) a tpos) X.env] := by rfl) :
    CS cm X (.Assign [.Subscript (.Name x px) a tpos] e pos) (sPut i fi fv) := fun B tk hp => (ps_asg (he B tk) (pg_sub (pe_var (i := i) hN hv hd hcd) (hi B tk) set_list ha) hs hw h1).weak fun Dn σ H ⟨G, env, r, q⟩ =>
  wantS.bind r q fun d env1 G1 H1 v1 e1 r1 y q1 => by
    cases c : ownE i env1 with
    | none => rw [c] at q1; exact q1.elim
    | some kd =>
      rw [c] at q1
      obtain ⟨k, ds⟩ := kd
      obtain ⟨v, ev, tr⟩ := r1.sl i _ (ownE_iff c)
      refine ⟨v, ev, wantS.bind r1 q1 fun z env2 G2 H2 v2 e2 r2 y2 q2 => ?_⟩
      cases c1 : ownE i env2 with
      | none => rw [c1] at q2; exact q2.elim
      | some kd =>
        rw [c1] at q2
        obtain ⟨k1, ds1⟩ := kd
        obtain ⟨v3, ev3, tr3⟩ := r2.sl i _ (ownE_iff c1)
        rw [ev] at ev3; cases ev3
        obtain ⟨a', vs1, rfl, g1, g2, g3, _⟩ := tr3
        match z, y2, q2 with
        | .int j, .int _, q2 =>
          dsimp only at q2
          cases c5 : ixN ds1.length j with
          | none => rw [c5] at q2; exact q2.elim
          | some n =>
            rw [c5] at q2
            refine ⟨a', vs1, j, n, rfl, rfl, g1, by rw [g3.length]; exact c5, ?_⟩
            exact q2 G2 _ σ (Ex.refl _) (r2.write (ownE_iff c1) ev (g3.set (Rp.mono e2 y) n))

/-! ### defs that hand out a new list -/
def eCf (l : M (List D)) : M D := fun env => (l env).bind fun ds env1 => .ok (.lst ds) env1
theorem ce_cf (h : CF cm X e l) : CE cm X e (eCf l) := fun B tk => (h B tk).weak fun σ H Q ⟨G, env, r, q⟩ => by
  refine ⟨G, env, r, ?_⟩
  unfold eCf at q
  cases c : l env with
  | no => rw [c] at q; exact q
  | exc x e => rw [c] at q; exact q
  | ok ds env1 =>
    rw [c] at q
    have q : ∀ G' H' v, Ex G G' → Rel X.K cm B G' H' σ env1 → Rp X.K cm G' v (.lst ds) → Q v H' := q
    refine fun G' H' p vs e1 r1 h1 h2 h3 h4 h5 => q (upd G' p (.lst vs)) H' _ (e1.trans (Ex.new h2)) ⟨fun b u z => ?_, r1.len, fun i t z => ?_, r1.ap, fun q' hq => ?_⟩ (.lst upd_same (h3.mono (Ex.new h2)))
    · by_cases hb : b = p
      · subst hb; rw [upd_same] at z; cases z; exact h1
      · rw [upd_ne hb] at z; exact r1.ex b u z
    · obtain ⟨v, ev, tr⟩ := r1.sl i t z
      refine ⟨v, ev, ?_⟩
      cases t with
      | fz d => exact Rp.mono (Ex.new h2) tr
      | ol k es =>
        obtain ⟨a, ws, rfl, g1, g2, g3, g4, g5⟩ := tr
        have ne : a ≠ p := fun zz => by subst zz; exact h5 i k es z ev
        exact ⟨a, ws, rfl, g1, by rw [upd_ne ne]; exact g2, g3.mono (Ex.new h2), g4, g5⟩
    · obtain ⟨m1, m2, m3⟩ := r1.pr q' hq
      have ne : q' ≠ p := fun zz => by subst zz; exact h4 hq
      exact ⟨by rw [upd_ne ne]; exact m1, m2, m3⟩
def sRetF (l : M (List D)) : MS := fun env => (l env).toS fun ds env1 => .retF ds env1
theorem cs_retF (h : CF cm X e l) : CS cm X (.Return (some e) pos) (sRetF l) := fun B tk hp => (ps_ret (h B tk)).weak fun Dn σ H ⟨G, env, r, q⟩ => by
  refine ⟨G, env, r, ?_⟩
  unfold sRetF at q
  cases c : l env with
  | no => rw [c] at q; exact q
  | exc x e => rw [c] at q; exact fun G' H' cls dd => q G' H' σ cls dd
  | ok ds env1 =>
    rw [c] at q
    exact fun G' H' p vs e1 r1 h1 h2 h3 h4 h5 => q G' H' σ p vs e1 r1 h1 h2 h3 h4
/-- return of an own list -/
def sRetN (i : Nat) : MS := fun env => match ownE i env with
  | some (none, ds) => .retF ds env
  | _ => .no
theorem cs_retO (i : Nat) (hN : X.N[i]? = some x := by rfl) (hv : Vis X.env.scope x := by first | exact Or.inl rfl | exact Or.inr (Or.inl rfl) | exact Or.inr (Or.inr rfl))
    (hd : (x == ("__debug__" : Str)) = false := by decide) (hcd : (x == ("__classdict__" : Str)) = false := by decide) : CS cm X (.Return (some (.Name x px)) pos) (sRetN i) := fun B tk hp => (ps_ret (pe_var (i := i) hN hv hd hcd)).weak fun Dn σ H ⟨G, env, r, q⟩ => by
  unfold sRetN at q
  split at q
  · rename_i ds c
    obtain ⟨v, ev, tr⟩ := r.sl i _ (ownE_iff c)
    obtain ⟨a, vs, rfl, h1, h2, h3, h4, _⟩ := tr
    exact ⟨_, ev, q G H σ a vs (Ex.refl _) r h1 h2 h3 h4⟩
  · exact q.elim
inductive WR where
  | ok (ds : List D) | exc (x : Xn) | no
section
variable (K : PySem.W.Frag) (cm : Str → Option Addr)
def wantW (G H : Hp) (Q : VK) (E : XK) : WR → Prop
  | .ok ds => ∀ G' H' p vs, Ex G G' → Ex G' H' → Keep G H G' H' none → H p = none → H' p = some (.lst vs) → G' p = none → Rps K cm G' vs ds → Q (.ref p) H'
  | .exc x => ∀ G' H' cls dd, Ex G G' → Ex G' H' → Keep G H G' H' none → XRel K cm G' H' cls dd x → E cls dd H'
  | .no => False
def spW (n : Nat) (F : List D → WR) : Sp := fun vs H Q E => vs.length = n ∧ ∃ G ds, Ex G H ∧ Rps K cm G vs ds ∧ wantW K cm G H Q E (F ds)
end
def runW (nN : Nat) (g : MS) : List D → WR := fun ds => match g (env0 nN none ds) with
  | .retF ds _ => .ok ds
  | .exc x _ => .exc x
  | _ => .no
theorem fnOkW {P : Program} {w : World} {K : PySem.W.Frag} {mg : Str → Option Value} {base : Heap} {x qual : Str} {params : Arguments} {fbody : List Stmt} {scope : Scope} {dvs : List V} {kws : List (Str × V)} {f : Addr} {fd : FuncData} {N ps : List Str} {k : Nat} {g : MS} (F : FunD K x qual params fbody scope dvs kws f fd) (S : FnScope N ps scope)
    (body : ∀ (cdv : Value) (A : Around) (outer : List PySem.Env) (s : Shared) (H : Hp) (E : XK), Room k (A.deeper (envOfC qual scope s.heap.objs.size f cdv)) → A.guards = some [] → CSs cm (cxOf (L2.CX P w) P w K mg base N qual scope f cdv A outer s H E) fbody g) :
    FnG P w K mg base (k + 1) f fd ps (spW K cm ps.length (runW N.length g)) := by
  obtain ⟨oc, od, dV, kV, doc, pm, an, cdv, ct, osl, rfl, lk, hcd, _, _⟩ := F.ex
  exact fnG_of lk hcd S (fun vs H Q E h => h.1) fun A outer s H vs Q E hr hgd ⟨hl, G, ds, ex, ar, q⟩ => by
    refine ⟨_, body cdv A outer s H E hr hgd (B0 G H none E) (takes_of rfl rfl rfl rfl) (passes_of rfl), G, env0 N.length none ds, rel_start ex (.pure ar), ?_⟩
    have kp : ∀ {G' H' : Hp} {σ' : L2.St} {env' : Vs.Env}, Rel K cm (B0 G H none E) G' H' σ' env' → Keep G H G' H' none := fun {G' H' σ' env'} r p h1 h2 h3 => by
      obtain ⟨q1, q2, _⟩ := r.pr p ⟨h1, h2, h3⟩
      exact ⟨q1, q2⟩
    unfold runW at q
    cases c : g (env0 N.length none ds) with
    | retF es env' =>
      rw [c] at q
      refine fun G' H' σ' p ws e1 r h1 h2 h3 h4 => q G' H' p ws e1 r.ex (kp r) ?_ h1 h2 h3
      have gp : G p = none := by
        cases z : G p with
        | none => rfl
        | some u => rw [e1 _ _ z] at h2; cases h2
      exact Classical.byContradiction fun hn => h4 ⟨hn, gp, fun z => by cases z⟩
    | exc x env' =>
      rw [c] at q
      exact fun G' H' σ' cls dd e1 r y => q G' H' cls dd e1 r.ex (kp r) y
    | next env' => rw [c] at q; exact q.elim
    | ret d env' => rw [c] at q; exact q.elim
    | brk env' => rw [c] at q; exact q.elim
    | cont env' => rw [c] at q; exact q.elim
    | no => rw [c] at q; exact q.elim
def WR.toR (r : WR) (env : Vs.Env) : R (List D) := match r with
  | .ok ds => .ok ds env
  | .exc x => .exc x env
  | .no => .no
def fCall (n : Nat) (F : List D → WR) (dds : List D) (l : M (List D)) : M (List D) := fun env => (l env).bind fun ds env1 => if (ds ++ dds).length = n then (F (ds ++ dds)).toR env1 else .no
theorem cf_call {Fn : List D → WR} {n : Nat} {f : Addr} {fd : FuncData} {k : Nat} {ps : List Str} {dvs : List V} {dds : List D} {dws : List Value} (F : FnG X.prog X.w X.K X.mg X.base k f fd ps (spW X.K cm n Fn)) (hr : Room k X.A) (hgd : X.A.guards = some []) (hg : Gl X x) (hm : X.mg x = some (.ref f)) (hk : PySem.W.keepIn X.K (.ref f) = true)
    (hb : Binds X.K fd ps dws) (hd : Vals dvs dws) (hdd : ∀ G, Rps X.K cm G dvs dds) (ha : CD cm X (e :: es) l) (hdb : (x == ("__debug__" : Str)) = false := by decide) (he : starEach (e :: es) X.env = (false, eval e X.env) :: starEach es X.env := by rfl)
    (hpl : (backTo pos (starEach es X.env)).any (·.1) = false := by rfl) : CF cm X (.Call (.Name x p) (e :: es) [] pos) (fCall n Fn dds l) := fun B tk =>
  (pe_callG F hr hgd hg hm hk hb hd (fun σ => passAt tk σ) (ha B tk) hdb he hpl).weak fun σ H Q ⟨G, env, r, q⟩ => by
    refine ⟨G, env, r, ?_⟩
    unfold fCall at q
    cases c : l env with
    | no => rw [c] at q; exact q
    | exc x e => rw [c] at q; exact q
    | ok ds env1 =>
      rw [c] at q
      simp only [Vs.R.bind_ok] at q
      refine fun G1 H1 vs e1 r1 y => ?_
      by_cases hn : (ds ++ dds).length = n
      · rw [if_pos hn] at q
        have y2 := Rps.append y (hdd G1)
        refine ⟨y2.length.trans hn, G1, _, r1.ex, y2, ?_⟩
        cases cf : Fn (ds ++ dds) with
        | ok es =>
          rw [cf] at q
          exact fun G' H' p vs e2 e3 kp h0 h1 h2 h3 => q G' H' p vs (e1.trans e2) (r1.after e2 e3 kp) h1 h2 h3 (r1.nprot h0) (r1.notOwned h0)
        | exc x =>
          rw [cf] at q
          exact fun G' H' cls dd e2 e3 kp yx => q G' H' cls dd (e1.trans e2) (r1.after e2 e3 kp) yx
        | no => rw [cf] at q; exact q
      · rw [if_neg hn] at q; exact q.elim
end
end Vs

set_option Elab.async false
set_option linter.all false
set_option maxRecDepth 100000
set_option maxHeartbeats 4000000
/-! VsJ: isinstance, repr, written dicts, dicts asked. -/
namespace Vs
open PySem PySem.Spec PyProof.Rows L2 Evl

/-! ### isinstance -/
def tyN : D → Option String
  | .non => some "NoneType"
  | .bl _ => some "bool"
  | .int _ => some "int"
  | .str _ => some "str"
  | .scr _ => some "list"
  | .lst _ => some "list"
  | .tup _ => some "tuple"
  | .dic _ => some "dict"
  | .obj _ _ => none
def tyNames : List String := ["NoneType", "bool", "int", "str", "list", "tuple", "dict"]
/-- the built-in types that are asked for -/
def tyAsked : List String := ["bool", "int", "str", "list", "tuple", "dict"]
def ansTy (n t : String) : Bool := n == t || (t == "int" && n == "bool")
theorem kit_all : ∀ n ∈ tyNames, ∀ t ∈ tyAsked, kitB n t = some (ansTy n t) := by decide +kernel
theorem tyN_mem {d : D} {n : String} (h : tyN d = some n) : n ∈ tyNames := by
  cases d <;> simp only [tyN] at h <;> first | (cases h; decide) | cases h
section
variable {K : PySem.W.Frag} {cm : Str → Option Addr} {X : Cx} {B : Base} {G H : Hp} {σ : L2.St} {env : Vs.Env} {e : Expr} {es : List Expr} {f : M D} {pos : Pos}
theorem tyx_of {v : V} {d : D} {n : String} (ex : Ex G H) (y : Rp K cm G v d) (h : tyN d = some n) : TyX K H v (.type n) := by
  cases y <;> simp only [tyN] at h <;> try (cases h; done)
  · cases h; exact .base .non
  · cases h; exact .base (.bl _)
  · cases h; exact .base (.int _)
  · cases h; exact .base (.str _)
  · rename_i a ns h1
    cases h
    rcases ex_l ex h1 with (h1 | ⟨o, h1⟩) | ⟨o, its, n, h1, h2, _⟩
    · exact .base (.lst h1)
    · exact .base (.frz h1)
    · exact .kList h1 h2
  · rename_i h1 hs
    cases h
    exact .base (.lst (ex _ _ h1))
  · rename_i h1 hs
    cases h
    rcases ex_t ex h1 with (h1 | ⟨o, h1⟩) | ⟨o, its, n, h1, h2, _⟩
    · exact .base (.tup h1)
    · exact .fTuple h1
    · exact .kTuple h1 h2
  · rename_i h1 h2 h3
    cases h
    exact .base (.dK (ex _ _ h1))
/-- what isinstance needs of the own classes -/
structure ObF (K : PySem.W.Frag) (C : Addr) : Prop where
  cl : Cls K C
  ha : PySem.W.findIn K (.ref C) "__class__" = some (some (.builtin "object.__class__"))
  hn : PySem.W.specialIn K (.builtin "object.__class__") "__get__" = some (some (.builtin "getset_descriptor.__get__"))
  ht : PySem.W.takesIn K (.builtin "object.__class__") = some true
  hm : PySem.W.mroIn K C (.type "object") = some true
theorem kitAny_tys {n : String} (hn : n ∈ tyNames) : ∀ {ts : List String}, (∀ t ∈ ts, t ∈ tyAsked) → PySem.W.kitAny K (.type n) (ts.map Value.type) = some (ts.any fun t => ansTy n t)
  | [], _ => rfl
  | t :: ts, h => by
    have h1 : PySem.W.kitOne K (.type n) (.type t) = some (ansTy n t) := kit_ty (kit_all n hn t (h t List.mem_cons_self))
    refine kitAny_cons h1 (fun e => ?_) (fun e => ?_)
    · rw [kitAny_tys hn (fun s hs => h s (List.mem_cons_of_mem _ hs)), List.any_cons, e, Bool.false_or]
    · rw [List.any_cons, e, Bool.true_or]
/-- isinstance(x, T), T built in; none of the own classes is one -/
def oIsi (ts : List String) (d : D) : Option D := match d with
  | .obj _ _ => some (.bl false)
  | d => (tyN d).map fun n => .bl (ts.any fun t => ansTy n t)
variable (cm K) in
/-- none of the own classes is of a built-in type that is asked for -/
def NoTy (ts : List String) : Prop := ∀ c C, cm c = some C → ObF K C ∧ ∀ t ∈ ts, PySem.W.kitOne K (.ref C) (.type t) = some false
theorem noTy_none {ts : List String} : NoTy K (fun _ => none) ts := fun c C h => nomatch h
theorem NoTy.any {ts : List String} {C : Addr} (h : ∀ t ∈ ts, PySem.W.kitOne K (.ref C) (.type t) = some false) : PySem.W.kitAny K (.ref C) (ts.map Value.type) = some false := by
  induction ts with
  | nil => rfl
  | cons t ts ih => exact kitAny_cons (h t List.mem_cons_self) (fun _ => ih fun s hs => h s (List.mem_cons_of_mem _ hs)) (fun z => nomatch z)
theorem isi_ty {ts : List String} (ht : ∀ t ∈ ts, t ∈ tyAsked) (no : NoTy K cm ts) {v : V} {d z : D} (ex : Ex G H) (y : Rp K cm G v d) (h : oIsi ts d = some z) : ∃ u b, TyX K H v u ∧ z = .bl b ∧ PySem.W.kitAny K u (ts.map Value.type) = some b ∧ ∀ t, ts = [t] → PySem.W.kitOne K u (.type t) = some b := by
  have go : ∀ n, tyN d = some n → z = .bl (ts.any fun t => ansTy n t) → ∃ u b, TyX K H v u ∧ z = .bl b ∧ PySem.W.kitAny K u (ts.map Value.type) = some b ∧ ∀ t, ts = [t] → PySem.W.kitOne K u (.type t) = some b := fun n hn hz => by
    refine ⟨_, _, tyx_of ex y hn, hz, kitAny_tys (tyN_mem hn) ht, fun t e => ?_⟩
    subst e
    have := kit_ty (K := K) (kit_all n (tyN_mem hn) t (ht t List.mem_cons_self))
    simpa using this
  cases y with
  | obj h0 h1 h2 h3 h4 =>
    have : some (D.bl false) = some z := h
    cases this
    obtain ⟨o, q⟩ := no _ _ h0
    refine ⟨_, false, .base (.ins (ex _ _ h1) o.cl o.ha o.hn o.ht o.hm), rfl, NoTy.any q, fun t e => ?_⟩
    subst e
    exact q t List.mem_cons_self
  | _ =>
    simp only [oIsi, tyN, Option.map_some, Option.some.injEq] at h
    exact go _ rfl h.symm
def eIsi (ts : List String) (f : M D) : M D := fun env => (f env).bind fun d env1 => R.opt (oIsi ts d) env1
theorem ce_isi1 {T : String} {tn : Str} {p pt : Pos} (hg : Gl X "isinstance") (hm : X.mg "isinstance" = none) (ht : [T].all (fun t => decide (t ∈ tyAsked)) = true) (no : NoTy X.K cm [T]) (ha : CE cm X e f) (hgt : Gl X tn) (hmt : X.mg tn = none) (hvt : bootBuiltins tn = some (.type T))
    (hnt : tn ≠ "__name__" := by decide) (hdt : (tn == ("__debug__" : Str)) = false := by decide) (he : starEach [e, .Name tn pt] X.env = (false, eval e X.env) :: starEach [.Name tn pt] X.env := by rfl)
    (he2 : starEach [.Name tn pt] X.env = (false, eval (.Name tn pt) X.env) :: starEach [] X.env := by rfl) (hpl : (backTo pos (starEach [.Name tn pt] X.env)).any (·.1) = false := by rfl) :
    CE cm X (.Call (.Name "isinstance" p) [e, .Name tn pt] [] pos) (eIsi [T] f) := fun B tk =>
  (pe_callB call_isi hg hm (by decide +kernel) (pa_cons (ha B tk) (pa_cons (pe_bltn (v := .ty T) hgt hmt hvt rfl hnt hdt) pa_nil he2) he) (by decide) (by decide) he hpl).weak fun σ H Q ⟨G, env, r, q⟩ => want.bind r q fun d env1 G1 H1 v e1 r1 y q1 => by
    cases c : oIsi [T] d with
    | none => rw [c] at q1; exact q1.elim
    | some z =>
      rw [c] at q1
      obtain ⟨u, b, t1, rfl, _, k1⟩ := isi_ty (fun t h => by simpa using List.all_eq_true.mp ht t h) no r1.ex y c
      exact ⟨v, .ty T, u, .type T, b, rfl, .ty T, t1, k1 T rfl, q1 G1 H1 _ (Ex.refl _) r1 (.bl b)⟩
theorem ce_isi2 {T T' : String} {tn tn' : Str} {p pt pt' ptt : Pos} {kk : Nat} (hg : Gl X "isinstance") (hm : X.mg "isinstance" = none) (ht : [T, T'].all (fun t => decide (t ∈ tyAsked)) = true) (no : NoTy X.K cm [T, T']) (ha : CE cm X e f) (hgt : Gl X tn) (hmt : X.mg tn = none) (hvt : bootBuiltins tn = some (.type T))
    (hgt' : Gl X tn') (hmt' : X.mg tn' = none) (hvt' : bootBuiltins tn' = some (.type T')) (hnt : tn ≠ "__name__" := by decide) (hdt : (tn == ("__debug__" : Str)) = false := by decide) (hnt' : tn' ≠ "__name__" := by decide) (hdt' : (tn' == ("__debug__" : Str)) = false := by decide)
    (he : starEach [e, .Tuple [.Name tn pt, .Name tn' pt'] kk ptt] X.env = (false, eval e X.env) :: starEach [.Tuple [.Name tn pt, .Name tn' pt'] kk ptt] X.env := by rfl)
    (he2 : starEach [.Tuple [.Name tn pt, .Name tn' pt'] kk ptt] X.env = (false, eval (.Tuple [.Name tn pt, .Name tn' pt'] kk ptt) X.env) :: starEach [] X.env := by rfl)
    (he3 : starEach [.Name tn pt, .Name tn' pt'] X.env = (false, eval (.Name tn pt) X.env) :: starEach [.Name tn' pt'] X.env := by rfl) (he4 : starEach [.Name tn' pt'] X.env = (false, eval (.Name tn' pt') X.env) :: starEach [] X.env := by rfl)
    (hpl : (backTo pos (starEach [.Tuple [.Name tn pt, .Name tn' pt'] kk ptt] X.env)).any (·.1) = false := by rfl) :
    CE cm X (.Call (.Name "isinstance" p) [e, .Tuple [.Name tn pt, .Name tn' pt'] kk ptt] [] pos) (eIsi [T, T'] f) := fun B tk =>
  (pe_callB call_isiT hg hm (by decide +kernel) (pa_cons (ha B tk) (pa_cons (pe_tup (pa_cons (pe_bltn (v := .ty T) hgt hmt hvt rfl hnt hdt) (pa_cons (pe_bltn (v := .ty T') hgt' hmt' hvt' rfl hnt' hdt') pa_nil he4) he3)) pa_nil he2) he) (by decide) (by decide) he hpl).weak fun σ H Q ⟨G, env, r, q⟩ => want.bind r q fun d env1 G1 H1 v e1 r1 y q1 => by
    cases c : oIsi [T, T'] d with
    | none => rw [c] at q1; exact q1.elim
    | some z =>
      rw [c] at q1
      refine ⟨by show 2 ≤ sizeLine; decide, fun tp htp => ?_⟩
      have r2 := r1.fresh (o := .tup [.ty T, .ty T']) htp
      obtain ⟨u, b, t1, rfl, k1, _⟩ := isi_ty (fun t h => by simpa using List.all_eq_true.mp ht t h) no r2.ex y c
      exact ⟨v, tp, [.ty T, .ty T'], u, [.type T, .type T'], b, rfl, upd_same, .cons (.ty T) (.cons (.ty T') .nil), t1, k1, q1 G1 _ _ (Ex.refl _) r2 (.bl b)⟩

/-! ### repr -/
def oRepr : List D → Option D
  | [d] => (pyOf d).bind fun p => if p.showable = true ∧ p.shown.length ≤ sizeLine ∧ p.depth ≤ 64 then some (.str p.shown) else none
  | _ => none
def rRepr (X : Cx) : List V → Hp → VK → Prop := fun xs H Q => ∃ v p, xs = [v] ∧ Dp X.K H v p ∧ p.showable = true ∧ p.shown.length ≤ sizeLine ∧ p.depth ≤ 64 ∧ Q (.str p.shown) H
mutual
theorem dp_nodict {K : PySem.W.Frag} {H : Hp} : ∀ (p : PyData) (v : V), Dp K H v p → p.hasDict = false
  | .none, _, _ => rfl
  | .bool _, _, _ => rfl
  | .int _, _, _ => rfl
  | .str _, _, _ => rfl
  | .list xs, v, h => by
    cases h with
    | lst _ h2 => unfold PyData.hasDict; exact dps_nodict xs _ h2
  | .tuple xs, v, h => by
    cases h with
    | tup _ h2 => unfold PyData.hasDict; exact dps_nodict xs _ h2
  | .dict _, _, h => by cases h
theorem dps_nodict {K : PySem.W.Frag} {H : Hp} : ∀ (ps : List PyData) (vs : List V), DpAll K H vs ps → PyData.hasDictAll ps = false
  | [], _, _ => by unfold PyData.hasDictAll; rfl
  | p :: ps, vs, h => by
    cases h with
    | cons h1 h2 => unfold PyData.hasDictAll; rw [dp_nodict p _ h1, dps_nodict ps _ h2]; rfl
end
theorem call_repr (hgd : X.A.guards = some []) (hu : X.A.units + 70 < cLine) : CallR X (.builtin "repr") (rRepr X) := by
  intro pins s σ H xs us Q I r h
  obtain ⟨v, p, rfl, dp, hs, hz, hd, q⟩ := h
  obtain ⟨u, rfl, rv⟩ := vals1 r
  obtain ⟨as, rd⟩ := Dp.reads I p v u dp rv
  have nd := dp_nodict p v dp
  cases dp with
  | non => cases rv; exact PySem.P.repr_of_none ⟨.str _, H, I.tok _, ⟨_, rfl⟩, q⟩
  | bl b => cases rv; exact PySem.P.repr_of_bool ⟨.str _, H, I.tok _, ⟨_, rfl⟩, by simpa [PyData.shown] using q⟩
  | int i =>
    obtain ⟨t, rfl⟩ := rv
    exact PySem.P.repr_of_int (by simpa [PyData.showable] using hs) ⟨.str _, H, I.tok _, ⟨_, rfl⟩, by simpa [PyData.shown] using q⟩
  | str x =>
    obtain ⟨t, rfl⟩ := rv
    exact PySem.P.repr_of_str ⟨.str _, H, I.tok _, ⟨_, rfl⟩, by simpa [PyData.shown] using q⟩ (by simpa [PyData.shown] using hz)
  | lst h1 h2 =>
    cases rv
    exact repr_of_reads' rd hs (PySem.PyData.noDict_hsm nd) hgd (by omega) (fun _ _ z => z) (fun h' w tk keep => ⟨.str _, H, I.kept keep, ⟨_, rfl⟩, q⟩) hz
  | tup h1 h2 =>
    cases rv
    exact repr_of_reads' rd hs (PySem.PyData.noDict_hsm nd) hgd (by omega) (fun _ _ z => z) (fun h' w tk keep => ⟨.str _, H, I.kept keep, ⟨_, rfl⟩, q⟩) hz
theorem cad_repr : CaD cm X (rRepr X) oRepr := fun B G H σ env vs ds d Q r ys c q => by
  unfold oRepr at c
  split at c
  · simp only [Option.bind_eq_some_iff] at c
    obtain ⟨p, e1, c⟩ := c
    obtain ⟨v, rfl, y⟩ := ys.one
    split at c
    · rename_i hh
      cases c
      exact ⟨v, p, rfl, dp_both r.ex _ _ y p e1, hh.1, hh.2.1, hh.2.2, q G H _ (Ex.refl G) r (.str _)⟩
    · cases c
  · cases c

/-! ### written dicts -/
inductive RK (K : PySem.W.Frag) (cm : Str → Option Addr) (G : Hp) : List (Key × V) → List (Key × D) → Prop
  | nil : RK K cm G [] []
  | cons {k : Key} {v : V} {d : D} {ks : List (Key × V)} {ds : List (Key × D)} : Rp K cm G v d → RK K cm G ks ds → RK K cm G ((k, v) :: ks) ((k, d) :: ds)
theorem RK.to {ks : List (Key × V)} {ds : List (Key × D)} (h : RK K cm G ks ds) : ks.map (·.1) = ds.map (·.1) ∧ Rps K cm G (ks.map (·.2)) (ds.map (·.2)) := by
  induction h with
  | nil => exact ⟨rfl, .nil⟩
  | cons h1 _ ih => exact ⟨by simp [ih.1], .cons h1 ih.2⟩
theorem RK.of : ∀ {ds : List (Key × D)} {ks : List (Key × V)}, ks.map (·.1) = ds.map (·.1) → Rps K cm G (ks.map (·.2)) (ds.map (·.2)) → RK K cm G ks ds
  | [], [], _, _ => .nil
  | [], _ :: _, h, _ => by simp at h
  | _ :: _, [], h, _ => by simp at h
  | (k', d) :: ds, (k, v) :: ks, h, h2 => by
    simp only [List.map_cons, List.cons.injEq] at h
    obtain ⟨rfl, h⟩ := h
    cases h2 with
    | cons h3 h4 => exact .cons h3 (RK.of h h4)
theorem RK.mono {G' : Hp} {ks : List (Key × V)} {ds : List (Key × D)} (e : Ex G G') (h : RK K cm G ks ds) : RK K cm G' ks ds := by
  induction h with
  | nil => exact .nil
  | cons h1 _ ih => exact .cons (h1.mono e) ih
def putD (ds : List (Key × D)) (k : Key) (d : D) : List (Key × D) := if (ds.any fun kv => decide (kv.1 = k)) = true then ds.map (fun kv => if kv.1 = k then (kv.1, d) else kv) else ds ++ [(k, d)]
theorem RK.any {ks : List (Key × V)} {ds : List (Key × D)} (h : RK K cm G ks ds) (k : Key) : (ks.any fun kv => decide (kv.1 = k)) = (ds.any fun kv => decide (kv.1 = k)) := by
  induction h with
  | nil => rfl
  | cons _ _ ih => simp [ih]
theorem RK.put {ks : List (Key × V)} {ds : List (Key × D)} (h : RK K cm G ks ds) {k : Key} {v : V} {d : D} (y : Rp K cm G v d) : RK K cm G (putK ks k v) (putD ds k d) := by
  unfold putK putD
  rw [h.any k]
  split
  · induction h with
    | nil => exact .nil
    | @cons k' v' d' ks' ds' h1 h2 ih =>
      rename_i hh
      clear hh
      have go : ∀ {ks : List (Key × V)} {ds : List (Key × D)}, RK K cm G ks ds → RK K cm G (ks.map fun kv => if kv.1 = k then (kv.1, v) else kv) (ds.map fun kv => if kv.1 = k then (kv.1, d) else kv) := fun {ks ds} h => by
        induction h with
        | nil => exact .nil
        | @cons k2 v2 d2 _ _ g1 _ ih2 =>
          simp only [List.map_cons]
          by_cases e : k2 = k
          · rw [if_pos e, if_pos e]; exact .cons y ih2
          · rw [if_neg e, if_neg e]; exact .cons g1 ih2
      exact go (.cons h1 h2)
  · induction h with
    | nil => exact .cons y .nil
    | cons h1 _ ih => exact .cons h1 (ih (by simp_all))
def mergeD (ds more : List (Key × D)) : List (Key × D) := more.foldl (fun acc kv => putD acc kv.1 kv.2) ds
theorem RK.merge {ms : List (Key × V)} {es : List (Key × D)} (h : RK K cm G ms es) : ∀ {ks : List (Key × V)} {ds : List (Key × D)}, RK K cm G ks ds → RK K cm G (mergeK ks ms) (mergeD ds es) := by
  induction h with
  | nil => exact fun h => h
  | cons h1 _ ih => exact fun h => ih (h.put h1)
def keyD : D → Option Key
  | .int i => some (.inl i)
  | .str x => some (.inr x)
  | _ => none
def ePairs : List (M D × M D) → M (List (Key × D))
  | [], env => .ok [] env
  | (fk, fv) :: r, env => (fk env).bind fun k env1 => (fv env1).bind fun v env2 => (R.opt (keyD k) env2).bind fun k' env3 => (ePairs r env3).bind fun ps env4 => .ok ((k', v) :: ps) env4
def eDic (fs : List (M D × M D)) : M D := fun env => (ePairs fs env).bind fun ps env1 => .ok (.dic (mergeD [] ps)) env1
theorem ce_dic0 : CE cm X (.Dict [] [] pos) (fun env => .ok (.dic []) env) := fun B tk => pe_dnewK.weak fun σ H Q ⟨G, env, r, q⟩ => fun p hp => by
  obtain ⟨r1, e1⟩ := r.alloc (o := .dK []) hp
  exact q _ _ _ e1 r1 (.dic upd_same rfl .nil)
/-- p is held as it is while parts are reckoned -/
def Base.hold (B : Base) (p : Addr) (o : HO) : Base := ⟨fun q => B.prot q ∨ q = p, fun q => if q = p then some o else B.H0 q, B.ins, B.W⟩
theorem Rel.toHold (r : Rel K cm B G H σ env) {p : Addr} {o : HO} (h : H p = none) : Rel K cm (B.hold p o) G (upd H p o) σ env := by
  have r2 := r.fresh (o := o) h
  refine ⟨r2.ex, r2.len, fun i t e => ?_, r2.ap, fun q hq => ?_⟩
  · obtain ⟨v, ev, tr⟩ := r2.sl i t e
    refine ⟨v, ev, ?_⟩
    cases t with
    | fz d => exact tr
    | ol k ds =>
      obtain ⟨a, vs, rfl, h1, h2, h3, h4, h5⟩ := tr
      refine ⟨a, vs, rfl, h1, h2, h3, ?_, h5⟩
      rintro (z | z)
      · exact h4 z
      · exact r.notOwned h i k ds e (by rw [← z]; exact ev)
  · by_cases hd : q = p
    · subst hd
      refine ⟨r.free h, by rw [upd_same]; show _ = (if q = q then _ else _); rw [if_pos rfl], ?_⟩
      show (if q = q then _ else _) ≠ none
      rw [if_pos rfl]; exact fun z => nomatch z
    · obtain ⟨h1, h2, h3⟩ := r2.pr q (hq.resolve_right hd)
      have e : (B.hold p o).H0 q = B.H0 q := if_neg hd
      rw [e]
      exact ⟨h1, h2, h3⟩
theorem Rel.ofHold {p : Addr} {o : HO} (nd : ¬ B.prot p) (r : Rel K cm (B.hold p o) G H σ env) : Rel K cm B G H σ env ∧ H p = some o ∧ G p = none := by
  have hp : H p = some o ∧ G p = none := by
    obtain ⟨h1, h2, h3⟩ := r.pr p (.inr rfl)
    have e : (B.hold p o).H0 p = some o := if_pos rfl
    rw [e] at h2
    exact ⟨h2, h1⟩
  refine ⟨⟨r.ex, r.len, fun i t e => ?_, r.ap, fun q hq => ?_⟩, hp⟩
  · obtain ⟨v, ev, tr⟩ := r.sl i t e
    refine ⟨v, ev, ?_⟩
    cases t with
    | fz d => exact tr
    | ol k ds =>
      obtain ⟨a, vs, rfl, h1, h2, h3, h4, h5⟩ := tr
      exact ⟨a, vs, rfl, h1, h2, h3, fun z => h4 (.inl z), h5⟩
  · obtain ⟨h1, h2, h3⟩ := r.pr q (.inl hq)
    have ne : q ≠ p := fun z => by subst z; exact nd hq
    have e : (B.hold p o).H0 q = B.H0 q := if_neg ne
    rw [e] at h2 h3
    exact ⟨h1, h2, h3⟩
/-- a held object that is laid down (with other content) -/
theorem Rel.layHeld {p : Addr} {o o' : HO} (nd : ¬ B.prot p) (r : Rel K cm (B.hold p o) G H σ env) : Rel K cm B (upd G p o') (upd H p o') σ env ∧ Ex G (upd G p o') := by
  obtain ⟨r2, hp, gp⟩ := r.ofHold nd
  have eg : Ex G (upd G p o') := Ex.new gp
  refine ⟨⟨ex_upd2 r2.ex, r2.len, fun i t e => ?_, r2.ap, fun q hq => ?_⟩, eg⟩
  · obtain ⟨v, ev, tr⟩ := r.sl i t e
    refine ⟨v, ev, ?_⟩
    cases t with
    | fz d => exact Rp.mono eg tr
    | ol k ds =>
      obtain ⟨a, vs, rfl, h1, h2, h3, h4, h5⟩ := tr
      have ne : a ≠ p := fun z => h4 (.inr z)
      exact ⟨a, vs, rfl, by rw [upd_ne ne]; exact h1, by rw [upd_ne ne]; exact h2, h3.mono eg, fun z => h4 (.inl z), h5⟩
  · obtain ⟨h1, h2, h3⟩ := r2.pr q hq
    have ne : q ≠ p := fun z => by subst z; exact nd hq
    exact ⟨by rw [upd_ne ne]; exact h1, by rw [upd_ne ne]; exact h2, h3⟩
def tGy {α β : Type} (X : Cx) (cm : Str → Option Addr) (Y : Hp → L2.St → β → α → Prop) (f : M α) : L2.St → Hp → (β → Hp → Prop) → Prop := fun σ H Q => ∃ B : Base, Takes X B.W ∧ tG X.K cm Y B f σ H Q
theorem CE.y (h : CE cm X e f) : PE X e (tGy X cm (YV X.K cm) f) := ⟨fun pins s σ H Q I ⟨B, tk, q⟩ => (h B tk).run pins s σ H Q I q⟩
variable (cm X) in
inductive CPs (pos : Pos) : List (Option Expr) → List Expr → List (M D × M D) → Prop
  | nil : CPs pos [] [] []
  | cons {k v : Expr} {ks : List (Option Expr)} {vs : List Expr} {fk fv : M D} {fs : List (M D × M D)} : CE cm X k fk → CE cm X v fv → CPs pos ks vs fs → CPs pos (some k :: ks) (v :: vs) ((fk, fv) :: fs)
theorem CPs.pps {ks : List (Option Expr)} {vs : List Expr} {fs : List (M D × M D)} (h : CPs cm X pos ks vs fs) : PPs X pos ks vs (fs.map fun q => (tGy X cm (YV X.K cm) q.1, tGy X cm (YV X.K cm) q.2)) := by
  induction h with
  | nil => exact pps_nil
  | cons h1 h2 _ ih => exact pps_cons h1.y h2.y ih
def YP (K : PySem.W.Frag) (cm : Str → Option Addr) : Hp → L2.St → List (V × V) → List (Key × D) → Prop := fun G _ vs ps => ∃ kvs, vs = kvs.map (fun kv => (kV kv.1, kv.2)) ∧ RK K cm G kvs ps
theorem pairs_of {B : Base} (tk : Takes X B.W) : ∀ {fs : List (M D × M D)} {H : Hp} {Q1 : List (V × V) → Hp → Prop}, tG X.K cm (YP X.K cm) B (ePairs fs) σ H Q1 → tPairs (fs.map fun q => (tGy X cm (YV X.K cm) q.1, tGy X cm (YV X.K cm) q.2)) σ H Q1
  | [], H, Q1, ⟨G, env, r, q⟩ => q G H [] (Ex.refl _) r ⟨[], rfl, .nil⟩
  | (fk, fv) :: fs, H, Q1, ⟨G, env, r, q⟩ => by
    unfold ePairs at q
    refine ⟨B, tk, want.bind r q fun kd env1 G1 H1 kv e1 r1 y1 q1 => ⟨B, tk, want.bind r1 q1 fun vd env2 G2 H2 vv e2 r2 y2 q2 => ?_⟩⟩
    cases c : keyD kd with
    | none => rw [c] at q2; exact q2.elim
    | some k' =>
      rw [c] at q2
      simp only [R.opt_some, Vs.R.bind_ok] at q2
      have hkv : kv = kV k' := by
        cases y1 <;> simp only [keyD] at c <;> first | (cases c; rfl) | cases c
      refine pairs_of tk (want.bind (Y := YP X.K cm) r2 q2 fun ps env3 G3 H3 kvs e3 r3 rk q3 => ?_)
      obtain ⟨kvs', rfl, rk⟩ := rk
      exact q3 G3 H3 _ (Ex.refl _) r3 ⟨(k', vv) :: kvs', by rw [hkv]; rfl, .cons (Rp.mono e3 y2) rk⟩
theorem ePairs_len : ∀ {fs : List (M D × M D)} {env env1 : Vs.Env} {ps : List (Key × D)}, ePairs fs env = .ok ps env1 → ps.length = fs.length
  | [], env, env1, ps, h => by
    have h : R.ok ([] : List (Key × D)) env = .ok ps env1 := h
    cases h; rfl
  | (fk, fv) :: fs, env, env1, ps, h => by
    unfold ePairs at h
    cases c : fk env with
    | no => rw [c] at h; cases h
    | exc x e => rw [c] at h; cases h
    | ok a e =>
      rw [c] at h
      simp only [Vs.R.bind_ok] at h
      cases c2 : fv e with
      | no => rw [c2] at h; cases h
      | exc x e => rw [c2] at h; cases h
      | ok b e2 =>
        rw [c2] at h
        simp only [Vs.R.bind_ok] at h
        cases c3 : keyD a with
        | none => rw [c3] at h; cases h
        | some k' =>
          rw [c3] at h
          simp only [R.opt_some, Vs.R.bind_ok] at h
          cases c4 : ePairs fs e2 with
          | no => rw [c4] at h; cases h
          | exc x e => rw [c4] at h; cases h
          | ok ps' e3 =>
            rw [c4] at h
            have h : R.ok ((k', b) :: ps') e3 = .ok ps env1 := h
            cases h
            simp [ePairs_len c4]
theorem CPs.len {ks : List (Option Expr)} {vs : List Expr} {fs : List (M D × M D)} (h : CPs cm X pos ks vs fs) : ks.length = fs.length := by
  induction h with
  | nil => rfl
  | cons _ _ _ ih => simp [ih]
theorem ce_dic {ks : List (Option Expr)} {vs : List Expr} {fs : List (M D × M D)} (h : CPs cm X pos ks vs fs) (hall : ks.all (·.isSome) = true) (hl : ks.length = vs.length) (h0 : ks ≠ []) (h15 : ks.length ≤ 15) : CE cm X (.Dict ks vs pos) (eDic fs) := fun B tk =>
  (pe_disp h.pps hall hl h0 h15).weak fun σ H Q ⟨G, env, r, q⟩ => fun p hp => by
    have r1 := r.toHold (o := .dK []) hp
    have nd := r.nprot hp
    refine pairs_of (B := B.hold p (.dK [])) tk ⟨G, env, r1, ?_⟩
    unfold eDic at q
    cases c : ePairs fs env with
    | no => rw [c] at q; exact q
    | exc x e => rw [c] at q; exact fun G' H' c d e1 r' => q G' H' c d e1 (r'.ofHold nd).1
    | ok ps env1 =>
      rw [c] at q
      rintro G' H' b e1 r' ⟨kvs, rfl, rk⟩
      obtain ⟨_, h1, h2⟩ := r'.ofHold nd
      obtain ⟨r3, e3⟩ := r'.layHeld (o' := .dK (mergeK [] kvs)) nd
      refine ⟨h1, kvs, rfl, ?_, q _ _ _ (e1.trans e3) r3 ?_⟩
      · have l1 := ePairs_len c
        have l2 := h.len
        have l3 : kvs.length = ps.length := by simpa using congrArg List.length rk.to.1
        omega
      · obtain ⟨m1, m2⟩ := ((rk.mono e3).merge (ks := []) (ds := []) .nil).to
        exact .dic upd_same m1 m2
end
end Vs

set_option Elab.async false
set_option linter.all false
set_option maxRecDepth 100000
set_option maxHeartbeats 4000000
/-! VsK: how calls bind; a def as it stands behind the top. -/
namespace Vs
open PySem PySem.Spec PyProof.Rows L2 Evl

/-- places: of the positional values, of the keywords' values, of the defaults -/
inductive Pl where
  | p (i : Nat) | k (i : Nat) | d (i : Nat)
def gIx {α : Type} (ix : List Pl) (us ws ds : List α) : List α := ix.filterMap fun
  | .p i => us[i]?
  | .k i => ws[i]?
  | .d i => ds[i]?
theorem paired_ix {α β : Type} {F : α → β → Prop} : ∀ {xs : List α} {ys : List β} (i : Nat), Paired F xs ys → (xs[i]? = none ∧ ys[i]? = none) ∨ ∃ x y, xs[i]? = some x ∧ ys[i]? = some y ∧ F x y
  | _, _, _, .nil => .inl ⟨by simp, by simp⟩
  | _, _, 0, .cons r _ => .inr ⟨_, _, by simp, by simp, r⟩
  | _, _, i + 1, .cons _ t => by simpa using paired_ix i t
theorem gIx_rel {α β : Type} {F : α → β → Prop} {us ws ds : List α} {us' ws' ds' : List β} (h1 : Paired F us us') (h2 : Paired F ws ws') (h3 : Paired F ds ds') : ∀ ix : List Pl, Paired F (gIx ix us ws ds) (gIx ix us' ws' ds')
  | [] => .nil
  | q :: ix => by
    have ih := gIx_rel h1 h2 h3 ix
    unfold gIx at ih ⊢
    cases q with
    | p i =>
      rcases paired_ix i h1 with ⟨a, b⟩ | ⟨x, y, a, b, r⟩
      · simp only [List.filterMap_cons, a, b]; exact ih
      · simp only [List.filterMap_cons, a, b]; exact .cons r ih
    | k i =>
      rcases paired_ix i h2 with ⟨a, b⟩ | ⟨x, y, a, b, r⟩
      · simp only [List.filterMap_cons, a, b]; exact ih
      · simp only [List.filterMap_cons, a, b]; exact .cons r ih
    | d i =>
      rcases paired_ix i h3 with ⟨a, b⟩ | ⟨x, y, a, b, r⟩
      · simp only [List.filterMap_cons, a, b]; exact ih
      · simp only [List.filterMap_cons, a, b]; exact .cons r ih
section
variable {K : PySem.W.Frag} {cm : Str → Option Addr} {G : Hp}
theorem Rps.paired : ∀ {ds : List D} {vs : List V}, Rps K cm G vs ds → Paired (Rp K cm G) vs ds
  | [], vs, h => by cases h; exact .nil
  | d :: ds, vs, h => by cases h with | cons h1 h2 => exact .cons h1 (Rps.paired h2)
theorem Rps.ofPaired {vs : List V} {ds : List D} (h : Paired (Rp K cm G) vs ds) : Rps K cm G vs ds := by
  induction h with
  | nil => exact .nil
  | cons h1 _ ih => exact .cons h1 ih
theorem Rps.gIx {us ws dv : List V} {us' ws' dd : List D} (h1 : Rps K cm G us us') (h2 : Rps K cm G ws ws') (h3 : Rps K cm G dv dd) (ix : List Pl) : Rps K cm G (gIx ix us ws dv) (gIx ix us' ws' dd) :=
  .ofPaired (gIx_rel h1.paired h2.paired h3.paired ix)
variable {x qual : Str} {params : Arguments} {body : List Stmt} {scope : Scope} {dvs : List V} {f : Addr} {fd : FuncData} {ps ks : List Str}
/-- f(.., k = v, ..) of a def without defaults: every parameter is written -/
theorem kbn0 (F : FunD K x qual params body scope [] [] f fd) (n : Nat) (ks : List Str) (ix : List Pl)
    (h : ∀ (kV doc pm : Value) (an : Option Addr) (cdv ct : Value) (us ws : List Value), us.length = n → ws.length = ks.length → bindArgs (PySem.W.fnOf x qual params body scope .none kV doc pm an cdv ct) ⟨us, ks.zip ws⟩ = pure (ps.zip (gIx ix us ws []))) :
    KBn K fd ps n ks (fun us ws => gIx ix us ws []) (fun vs zs => gIx ix vs zs []) := by
  obtain ⟨oc, od, dV, kV, doc, pm, an, cdv, ct, osl, rfl, lk, hcd, hD, _⟩ := F.ex
  rcases hD with ⟨_, rfl⟩ | ⟨e, _⟩
  · exact ⟨fun s us ws X l1 l2 => .of_eq (h kV doc pm an cdv ct us ws l1 l2), fun r1 r2 => gIx_rel r1 r2 .nil ix⟩
  · exact absurd rfl e
/-- .. with defaults -/
theorem kbnD (F : FunD K x qual params body scope dvs [] f fd) (n : Nat) (ks : List Str) (ix : List Pl) (hd : dvs ≠ [])
    (h : ∀ (T : Addr) (kV doc pm : Value) (an : Option Addr) (cdv ct : Value) (us its ws : List Value), us.length = n → its.length = dvs.length → ws.length = ks.length →
      ∃ k, bindArgs (PySem.W.fnOf x qual params body scope (.ref T) kV doc pm an cdv ct) ⟨us, ks.zip ws⟩ = seqItems? (.ref T) >>= k ∧ k (some its.toArray) = pure (ps.zip (gIx ix us ws its))) :
    ∃ its : List Value, KBn K fd ps n ks (fun us ws => gIx ix us ws its) (fun vs zs => gIx ix vs zs dvs) := by
  obtain ⟨its, h⟩ := F.kbindsD n ks (fun vs ds zs => gIx ix vs zs ds) hd (fun r1 r2 r3 => gIx_rel r1 r3 r2 ix) h
  exact ⟨its, h⟩
/-- .. where all are written, though there are defaults: they are never looked at -/
theorem kbnA (F : FunD K x qual params body scope dvs [] f fd) (n : Nat) (ks : List Str) (ix : List Pl)
    (h : ∀ (dV kV doc pm : Value) (an : Option Addr) (cdv ct : Value) (us ws : List Value), us.length = n → ws.length = ks.length → bindArgs (PySem.W.fnOf x qual params body scope dV kV doc pm an cdv ct) ⟨us, ks.zip ws⟩ = pure (ps.zip (gIx ix us ws []))) :
    KBn K fd ps n ks (fun us ws => gIx ix us ws []) (fun vs zs => gIx ix vs zs []) := by
  obtain ⟨oc, od, dV, kV, doc, pm, an, cdv, ct, osl, rfl, lk, hcd, hD, _⟩ := F.ex
  exact ⟨fun s us ws X l1 l2 => .of_eq (h dV kV doc pm an cdv ct us ws l1 l2), fun r1 r2 => gIx_rel r1 r2 .nil ix⟩
theorem bindA (F : FunD K x qual params body scope dvs [] f fd)
    (h : ∀ (dV kV doc pm : Value) (an : Option Addr) (cdv ct : Value) (us : List Value), us.length = ps.length → bindArgs (PySem.W.fnOf x qual params body scope dV kV doc pm an cdv ct) ⟨us, []⟩ = pure (ps.zip us)) : Binds K fd ps [] := by
  obtain ⟨oc, od, dV, kV, doc, pm, an, cdv, ct, osl, rfl, lk, hcd, hD, _⟩ := F.ex
  exact .all (h dV kV doc pm an cdv ct)
theorem bind0 (F : FunD K x qual params body scope [] [] f fd)
    (h : ∀ (kV doc pm : Value) (an : Option Addr) (cdv ct : Value) (us : List Value), us.length = ps.length → bindArgs (PySem.W.fnOf x qual params body scope .none kV doc pm an cdv ct) ⟨us, []⟩ = pure (ps.zip us)) : Binds K fd ps [] := by
  obtain ⟨oc, od, dV, kV, doc, pm, an, cdv, ct, osl, rfl, lk, hcd, hD, _⟩ := F.ex
  rcases hD with ⟨_, rfl⟩ | ⟨e, _⟩
  · exact .all (h kV doc pm an cdv ct)
  · exact absurd rfl e
theorem bindD (F : FunD K x qual params body scope dvs [] f fd) (hd : dvs ≠ [])
    (h : ∀ (T : Addr) (kV doc pm : Value) (an : Option Addr) (cdv ct : Value) (us its : List Value), us.length = ps.length → its.length = dvs.length →
      ∃ k, bindArgs (PySem.W.fnOf x qual params body scope (.ref T) kV doc pm an cdv ct) ⟨us, []⟩ = seqItems? (.ref T) >>= k ∧ k (some its.toArray) = pure (ps.zip us)) : Binds K fd ps [] := by
  obtain ⟨ds, hv, hb⟩ := F.binds1 (ps := ps) ps.length dvs.length hd (by omega) (fun T kV doc pm an cdv ct us its l1 l2 => by
    obtain ⟨k, e1, e2⟩ := h T kV doc pm an cdv ct us its l1 l2
    exact ⟨k, e1, by rw [e2, ← l2, List.drop_length, List.append_nil]⟩)
  rw [List.drop_length] at hv
  cases hv
  exact hb
theorem hu_r {A : Around} {k j : Nat} (hr : Room k A) (hj : j ≤ 200 := by decide) : A.units + j < cLine := by have := hr.un; omega
/-- a def as the head tells it -/
theorem funD0 {st : Stmt} {oc : Value} {od an : Option Addr} {osl : Array (Option Value)} {kV doc pm cdv ct : Value} (l : K.lookup f = some ⟨oc, od, .func (PySem.W.fnOf x qual (defArgs st) (defBody st) (defScope st) .none kV doc pm an cdv ct), osl⟩)
    (c : PySem.W.codeIn K cdv qual = true) (k : PySem.W.keepIn K (.ref f) = true) : FunD K x qual (defArgs st) (defBody st) (defScope st) [] [] f (PySem.W.fnOf x qual (defArgs st) (defBody st) (defScope st) .none kV doc pm an cdv ct) :=
  ⟨⟨oc, od, .none, kV, doc, pm, an, cdv, ct, osl, rfl, l, c, .inl ⟨rfl, rfl⟩, .inl rfl⟩, k⟩
theorem funDd {st : Stmt} {oc : Value} {od an : Option Addr} {osl : Array (Option Value)} {kV doc pm cdv ct : Value} {T : Addr} {o : Obj} {its : List Value} {n : Nat} (l : K.lookup f = some ⟨oc, od, .func (PySem.W.fnOf x qual (defArgs st) (defBody st) (defScope st) (.ref T) kV doc pm an cdv ct), osl⟩)
    (c : PySem.W.codeIn K cdv qual = true) (k : PySem.W.keepIn K (.ref f) = true) (lT : K.lookup T = some o) (oT : o.data = .seq its.toArray n) (hv : Vals dvs its) (hd : dvs ≠ []) :
    FunD K x qual (defArgs st) (defBody st) (defScope st) dvs [] f (PySem.W.fnOf x qual (defArgs st) (defBody st) (defScope st) (.ref T) kV doc pm an cdv ct) :=
  ⟨⟨oc, od, .ref T, kV, doc, pm, an, cdv, ct, osl, rfl, l, c, .inr ⟨hd, T, o, its, n, rfl, lT, oT, hv⟩, .inl rfl⟩, k⟩
end
/-- the law's promise from its function: at every script it gives True -/
theorem law_sp {K : PySem.W.Frag} {cm : Str → Option Addr} {F : Fs} {H : Hp} {a : Addr} {ns : List Int} (h : SqL K H a (ns.map V.int)) (hF : F none [.scr ns] = .ok (.bl true) none) : spF K cm 1 F [.ref a] H (fun v _ => v = .bl true) fun _ _ _ => False := by
  refine ⟨rfl, H, none, none, [.scr ns], Ex.refl _, .pure (.cons (.scr h) .nil), ?_⟩
  rw [hF]
  intro G' H' v _ _ _ _ y
  cases y; rfl
end Vs

set_option Elab.async false
set_option linter.all false
set_option maxRecDepth 100000
set_option maxHeartbeats 4000000
/-! VsP: running the functions of the Vs layer, in plain Lean. -/
namespace Vs
open PySem PySem.Spec PyProof.Rows L2 Evl
/-- K holds of the outcome r -/
def Go {α : Type} (K : α → Prop) (r : α) : Prop := K r
def kBind {α β : Type} (f : α → Vs.Env → R β) (K : R β → Prop) : R α → Prop
  | .ok a e => Go K (f a e)
  | .exc x e => K (.exc x e)
  | .no => K .no
def kToS {α : Type} (f : α → Vs.Env → RS) (K : RS → Prop) : R α → Prop
  | .ok a e => Go K (f a e)
  | .exc x e => K (.exc x e)
  | .no => K .no
def kSeq (g : MS) (K : RS → Prop) : RS → Prop
  | .next e => Go K (g e)
  | r => K r
theorem go_iff {α : Type} {K : α → Prop} {r : α} : Go K r ↔ K r := Iff.rfl
section
variable {α β γ : Type} {K : R α → Prop} {KD : R D → Prop} {KB : R Bool → Prop} {KL : R (List D) → Prop} {KS : RS → Prop} {KF : FR → Prop} {KO : R (Option Int) → Prop} {KW : WR → Prop} {env e : Vs.Env} {d a b : D} {x : Xn}
theorem k_ok {f : β → Vs.Env → R α} {y : β} : kBind f K (.ok y e) = Go K (f y e) := rfl
theorem k_exc {f : β → Vs.Env → R α} : kBind f K (.exc x e) = K (.exc x e) := rfl
theorem kS_ok {f : β → Vs.Env → RS} {y : β} : kToS f KS (.ok y e) = Go KS (f y e) := rfl
theorem kS_exc {f : β → Vs.Env → RS} : kToS f KS (.exc x e) = KS (.exc x e) := rfl
theorem kq_next {g : MS} : kSeq g KS (.next e) = Go KS (g e) := rfl
theorem kq_ret {g : MS} : kSeq g KS (.ret d e) = KS (.ret d e) := rfl
theorem kq_brk {g : MS} : kSeq g KS (.brk e) = KS (.brk e) := rfl
theorem kq_cont {g : MS} : kSeq g KS (.cont e) = KS (.cont e) := rfl
theorem kq_exc {g : MS} : kSeq g KS (.exc x e) = KS (.exc x e) := rfl
theorem kq_retF {g : MS} {ds : List D} : kSeq g KS (.retF ds e) = KS (.retF ds e) := rfl
theorem go_ok {y : α} : Go K (.ok y e) = K (.ok y e) := rfl
theorem go_exc : Go K (.exc x e) = K (.exc x e) := rfl
theorem go_next : Go KS (.next e) = KS (.next e) := rfl
theorem go_ret : Go KS (.ret d e) = KS (.ret d e) := rfl
theorem go_brk : Go KS (.brk e) = KS (.brk e) := rfl
theorem go_cont : Go KS (.cont e) = KS (.cont e) := rfl
theorem go_excS : Go KS (.exc x e) = KS (.exc x e) := rfl
theorem go_retF {ds : List D} : Go KS (.retF ds e) = KS (.retF ds e) := rfl
theorem go_bind {r : R β} {f : β → Vs.Env → R α} : Go K (r.bind f) = Go (kBind f K) r := by cases r <;> rfl
theorem go_toS {r : R β} {f : β → Vs.Env → RS} : Go KS (r.toS f) = Go (kToS f KS) r := by cases r <;> rfl
theorem go_some {y : α} : Go K (R.opt (some y) e) = K (.ok y e) := rfl
/- values -/
def getV (env : Vs.Env) : Option (Option T) → R D
  | some (some (.fz d)) => .ok d env
  | _ => .no
theorem go_v {i : Nat} : Go KD (eV i env) = Go KD (getV env env[i]?) := by
  unfold eV getV; rfl
theorem getV_fz : Go KD (getV env (some (some (.fz d)))) = KD (.ok d env) := rfl
theorem go_c : Go KD (eC d env) = KD (.ok d env) := rfl
def bin1 (o : D → D → Option D) (g : M D) (a : D) (env : Vs.Env) : R D := (g env).bind fun b env2 => R.opt (o a b) env2
def bin2 (o : D → D → Option D) (a b : D) (env : Vs.Env) : R D := R.opt (o a b) env
theorem go_bin {o : D → D → Option D} {f g : M D} : Go KD (eBin o f g env) = Go (kBind (bin1 o g) KD) (f env) := go_bind
theorem go_bin1 {o : D → D → Option D} {g : M D} : Go KD (bin1 o g a env) = Go (kBind (bin2 o a) KD) (g env) := go_bind
theorem go_bin2 {o : D → D → Option D} : Go KD (bin2 o a b env) = Go KD (R.opt (o a b) env) := rfl
def un1 (o : D → Option D) (a : D) (env : Vs.Env) : R D := R.opt (o a) env
theorem go_un {o : D → Option D} {f : M D} : Go KD (eUn o f env) = Go (kBind (un1 o) KD) (f env) := go_bind
theorem go_un1 {o : D → Option D} : Go KD (un1 o a env) = Go KD (R.opt (o a) env) := rfl
/- truth -/
def tru1 (a : D) (env : Vs.Env) : R Bool := R.opt (oTru a) env
def bl1 (a : D) (env : Vs.Env) : R Bool := R.opt (oBl a) env
theorem go_tru {f : M D} : Go KB (eTru f env) = Go (kBind tru1 KB) (f env) := go_bind
theorem go_tru1 : Go KB (tru1 a env) = Go KB (R.opt (oTru a) env) := rfl
theorem go_bl {f : M D} : Go KB (eBl f env) = Go (kBind bl1 KB) (f env) := go_bind
theorem go_bl1 : Go KB (bl1 a env) = Go KB (R.opt (oBl a) env) := rfl
def and1 (w : M Bool) : Bool → Vs.Env → R Bool
  | true, env => w env
  | false, env => .ok false env
def or1 (w : M Bool) : Bool → Vs.Env → R Bool
  | true, env => .ok true env
  | false, env => w env
def not1 (b : Bool) (env : Vs.Env) : R Bool := .ok (!b) env
theorem go_and {u w : M Bool} : Go KB (eAnd u w env) = Go (kBind (and1 w) KB) (u env) := by
  unfold eAnd; rw [go_bind]
  congr 1; congr 1; funext b e; cases b <;> rfl
theorem go_andT {w : M Bool} : Go KB (and1 w true env) = Go KB (w env) := rfl
theorem go_andF {w : M Bool} : Go KB (and1 w false env) = KB (.ok false env) := rfl
theorem go_or {u w : M Bool} : Go KB (eOr u w env) = Go (kBind (or1 w) KB) (u env) := by
  unfold eOr; rw [go_bind]
  congr 1; congr 1; funext b e; cases b <;> rfl
theorem go_orT {w : M Bool} : Go KB (or1 w true env) = KB (.ok true env) := rfl
theorem go_orF {w : M Bool} : Go KB (or1 w false env) = Go KB (w env) := rfl
theorem go_not {u : M Bool} : Go KB (eNot u env) = Go (kBind not1 KB) (u env) := go_bind
theorem go_not1 {b : Bool} : Go KB (not1 b env) = KB (.ok (!b) env) := rfl
def andV2 (g : M D) (d : D) : Bool → Vs.Env → R D
  | true, env => g env
  | false, env => .ok d env
def orV2 (g : M D) (d : D) : Bool → Vs.Env → R D
  | true, env => .ok d env
  | false, env => g env
def andV1 (g : M D) (d : D) (env : Vs.Env) : R D := (R.opt (oTru d) env).bind (andV2 g d)
def orV1 (g : M D) (d : D) (env : Vs.Env) : R D := (R.opt (oTru d) env).bind (orV2 g d)
theorem go_andV {f g : M D} : Go KD (eAndV f g env) = Go (kBind (andV1 g) KD) (f env) := by
  unfold eAndV; rw [go_bind]
  congr 1; congr 1; funext d e; unfold andV1
  cases oTru d with
  | none => rfl
  | some b => cases b <;> rfl
theorem go_orV {f g : M D} : Go KD (eOrV f g env) = Go (kBind (orV1 g) KD) (f env) := by
  unfold eOrV; rw [go_bind]
  congr 1; congr 1; funext d e; unfold orV1
  cases oTru d with
  | none => rfl
  | some b => cases b <;> rfl
theorem go_andV1 {g : M D} : Go KD (andV1 g d env) = Go (kBind (andV2 g d) KD) (R.opt (oTru d) env) := go_bind
theorem go_orV1 {g : M D} : Go KD (orV1 g d env) = Go (kBind (orV2 g d) KD) (R.opt (oTru d) env) := go_bind
theorem go_andVT {g : M D} : Go KD (andV2 g d true env) = Go KD (g env) := rfl
theorem go_andVF {g : M D} : Go KD (andV2 g d false env) = KD (.ok d env) := rfl
theorem go_orVT {g : M D} : Go KD (orV2 g d true env) = KD (.ok d env) := rfl
theorem go_orVF {g : M D} : Go KD (orV2 g d false env) = Go KD (g env) := rfl
def notV2 (k : Bool) (env : Vs.Env) : R D := .ok (.bl (!k)) env
def notV1 (d : D) (env : Vs.Env) : R D := (R.opt (oTru d) env).bind notV2
theorem go_notV {f : M D} : Go KD (eNotV f env) = Go (kBind notV1 KD) (f env) := go_bind
theorem go_notV1 : Go KD (notV1 d env) = Go (kBind notV2 KD) (R.opt (oTru d) env) := go_bind
theorem go_notV2 {k : Bool} : Go KD (notV2 k env) = KD (.ok (.bl (!k)) env) := rfl
def if1 (f g : M D) : Bool → Vs.Env → R D
  | true, env => f env
  | false, env => g env
theorem go_if {u : M Bool} {f g : M D} : Go KD (eIf u f g env) = Go (kBind (if1 f g) KD) (u env) := by
  unfold eIf; rw [go_bind]
  congr 1; congr 1; funext b e; cases b <;> rfl
theorem go_ifT {f g : M D} : Go KD (if1 f g true env) = Go KD (f env) := rfl
theorem go_ifF {f g : M D} : Go KD (if1 f g false env) = Go KD (g env) := rfl
/- lists -/
def cons2 (d : D) (ds : List D) (env : Vs.Env) : R (List D) := .ok (d :: ds) env
def cons1 (g : M (List D)) (d : D) (env : Vs.Env) : R (List D) := (g env).bind (cons2 d)
theorem go_nil : Go KL (eNil env) = KL (.ok [] env) := rfl
theorem go_cons {f : M D} {g : M (List D)} : Go KL (eCons f g env) = Go (kBind (cons1 g) KL) (f env) := go_bind
theorem go_cons1 {g : M (List D)} : Go KL (cons1 g d env) = Go (kBind (cons2 d) KL) (g env) := go_bind
theorem go_cons2 {ds : List D} : Go KL (cons2 d ds env) = KL (.ok (d :: ds) env) := rfl
def chk {α : Type} (p : Prop) [Decidable p] (r : R α) : R α := if p then r else .no
def lst1 (ds : List D) (env : Vs.Env) : R D := chk (ds.length ≤ sizeLine) (.ok (.lst ds) env)
def tup1 (ds : List D) (env : Vs.Env) : R D := chk (ds.length ≤ sizeLine) (.ok (.tup ds) env)
theorem go_chk {p : Prop} [Decidable p] {r : R α} (h : p) : Go K (chk p r) = Go K r := by unfold chk; rw [if_pos h]
theorem go_lst {l : M (List D)} : Go KD (eLst l env) = Go (kBind lst1 KD) (l env) := go_bind
theorem go_tup {l : M (List D)} : Go KD (eTup l env) = Go (kBind tup1 KD) (l env) := go_bind
theorem go_lst1 {ds : List D} (h : ds.length ≤ sizeLine) : Go KD (lst1 ds env) = KD (.ok (.lst ds) env) := by unfold lst1; rw [go_chk h]; rfl
theorem go_tup1 {ds : List D} (h : ds.length ≤ sizeLine) : Go KD (tup1 ds env) = KD (.ok (.tup ds) env) := by unfold tup1; rw [go_chk h]; rfl
def cal1 (o : List D → Option D) (ds : List D) (env : Vs.Env) : R D := R.opt (o ds) env
theorem go_cal {o : List D → Option D} {l : M (List D)} : Go KD (eCal o l env) = Go (kBind (cal1 o) KD) (l env) := go_bind
theorem go_cal1 {o : List D → Option D} {ds : List D} : Go KD (cal1 o ds env) = Go KD (R.opt (o ds) env) := rfl
def isi1 (ts : List String) (d : D) (env : Vs.Env) : R D := R.opt (oIsi ts d) env
theorem go_isi {ts : List String} {f : M D} : Go KD (eIsi ts f env) = Go (kBind (isi1 ts) KD) (f env) := go_bind
theorem go_isi1 {ts : List String} : Go KD (isi1 ts d env) = Go KD (R.opt (oIsi ts d) env) := rfl
/- statements -/
theorem go_seq {g g2 : MS} : Go KS (sSeq g g2 env) = Go (kSeq g2 KS) (g env) := by
  unfold sSeq RS.seq Go kSeq
  cases g env <;> rfl
def ret1 (d : D) (env : Vs.Env) : RS := .ret d env
theorem go_sRet {f : M D} : Go KS (sRet f env) = Go (kToS ret1 KS) (f env) := go_toS
theorem go_ret1 : Go KS (ret1 d env) = KS (.ret d env) := rfl
def ex1 (d : D) (env : Vs.Env) : RS := .next env
theorem go_sExpr {f : M D} : Go KS (sExpr f env) = Go (kToS ex1 KS) (f env) := go_toS
theorem go_ex1 : Go KS (ex1 d env) = KS (.next env) := rfl
def sif1 (g g2 : MS) : Bool → Vs.Env → RS
  | true, env => g env
  | false, env => g2 env
theorem go_sIf {u : M Bool} {g g2 : MS} : Go KS (sIf u g g2 env) = Go (kToS (sif1 g g2) KS) (u env) := by
  unfold sIf; rw [go_toS]
  congr 1; congr 1; funext b e; cases b <;> rfl
theorem go_sifT {g g2 : MS} : Go KS (sif1 g g2 true env) = Go KS (g env) := rfl
theorem go_sifF {g g2 : MS} : Go KS (sif1 g g2 false env) = Go KS (g2 env) := rfl
def optS (o : Option Vs.Env) : RS := match o with
  | some e => .next e
  | none => .no
theorem go_optS : Go KS (optS (some e)) = KS (.next e) := rfl
def asg1 (k : D → Vs.Env → Option Vs.Env) (d : D) (env : Vs.Env) : RS := optS (k d env)
theorem go_sAsg {f : M D} {k : D → Vs.Env → Option Vs.Env} : Go KS (sAsg f k env) = Go (kToS (asg1 k) KS) (f env) := by
  unfold sAsg; rw [go_toS]; rfl
theorem go_asg1 {k : D → Vs.Env → Option Vs.Env} : Go KS (asg1 k d env) = Go KS (optS (k d env)) := rfl
def set1 (i : Nat) (d : D) (env : Vs.Env) : RS := .next (env.set i (some (.fz d)))
theorem go_sSet {i : Nat} {f : M D} : Go KS (sSet i f env) = Go (kToS (set1 i) KS) (f env) := go_toS
theorem go_set1 {i : Nat} : Go KS (set1 i d env) = KS (.next (env.set i (some (.fz d)))) := rfl
def par1 (i j : Nat) (ds : List D) (env : Vs.Env) : RS := match ds with
  | [d1, d2] => .next ((env.set i (some (.fz d1))).set j (some (.fz d2)))
  | _ => .no
theorem go_sPar {i j : Nat} {l : M (List D)} : Go KS (sPar i j l env) = Go (kToS (par1 i j) KS) (l env) := go_toS
theorem go_par1 {i j : Nat} : Go KS (par1 i j [a, b] env) = KS (.next ((env.set i (some (.fz a))).set j (some (.fz b)))) := rfl
def aug1 (i : Nat) (o : D → D → Option D) (a : D) (d : D) (env : Vs.Env) : RS := match o a d with
  | some z => .next (env.set i (some (.fz z)))
  | none => .no
def augV (i : Nat) (o : D → D → Option D) (f : M D) (env : Vs.Env) : Option (Option T) → RS
  | some (some (.fz a)) => (f env).toS (aug1 i o a)
  | _ => .no
theorem go_sAug {i : Nat} {o : D → D → Option D} {f : M D} : Go KS (sAug i o f env) = Go KS (augV i o f env env[i]?) := by
  unfold sAug augV
  cases env[i]? with
  | none => rfl
  | some o => cases o with
    | none => rfl
    | some t => cases t <;> rfl
theorem go_augV {i : Nat} {o : D → D → Option D} {f : M D} : Go KS (augV i o f env (some (some (.fz a)))) = Go (kToS (aug1 i o a) KS) (f env) := go_toS
theorem go_aug1 {i : Nat} {o : D → D → Option D} {z : D} (h : o a d = some z) : Go KS (aug1 i o a d env) = KS (.next (env.set i (some (.fz z)))) := by unfold aug1; rw [h]; rfl
/- targets -/
theorem kN_eq {i : Nat} : kN i d env = some (env.set i (some (.fz d))) := rfl
theorem kNil_eq : kNil [] env = some env := rfl
theorem kCons_eq {k : D → Vs.Env → Option Vs.Env} {ks : List D → Vs.Env → Option Vs.Env} {ds : List D} : kCons k ks (d :: ds) env = (k d env).bind (ks ds) := rfl
theorem kT_eq {n : Nat} {ks : List D → Vs.Env → Option Vs.Env} {ds : List D} (h : ds.length = n) : kT n ks (.tup ds) env = ks ds env := by show (if ds.length = n then _ else _) = _; rw [if_pos h]
/- own lists -/
def rdO : Option (Option T) → Option D
  | some (some (.fz d)) => some d
  | some (some (.ol _ ds)) => some (.lst ds)
  | _ => none
theorem rdE_eq {i : Nat} : rdE i env = rdO env[i]? := by unfold rdE rdO; rfl
theorem rdO_fz : rdO (some (some (.fz d))) = some d := rfl
theorem rdO_ol {k : Option Nat} {ds : List D} : rdO (some (some (.ol k ds))) = some (.lst ds) := rfl
def owO : Option (Option T) → Option (Option Nat × List D)
  | some (some (.ol k ds)) => some (k, ds)
  | _ => none
theorem ownE_eq {i : Nat} : ownE i env = owO env[i]? := by unfold ownE owO; rfl
theorem owO_ol {k : Option Nat} {ds : List D} : owO (some (some (.ol k ds))) = some (k, ds) := rfl
def binL2 (i : Nat) (o : D → D → Option D) (b : D) (env : Vs.Env) : R D := R.opt ((rdE i env).bind fun a => o a b) env
def binL1 (i : Nat) (o : D → D → Option D) (g : M D) (env : Vs.Env) : Option D → R D
  | some _ => (g env).bind (binL2 i o)
  | none => .no
theorem go_binL {i : Nat} {o : D → D → Option D} {g : M D} : Go KD (eBinL i o g env) = Go KD (binL1 i o g env (rdE i env)) := by
  unfold eBinL binL1
  cases rdE i env <;> rfl
theorem go_binL1 {i : Nat} {o : D → D → Option D} {g : M D} : Go KD (binL1 i o g env (some d)) = Go (kBind (binL2 i o) KD) (g env) := go_bind
def oSw (o : D → D → Option D) (b a : D) : Option D := o a b
theorem go_binL2 {i : Nat} {o : D → D → Option D} : Go KD (binL2 i o b env) = Go KD (R.opt ((rdE i env).bind (oSw o b)) env) := rfl
theorem oSw_eq {o : D → D → Option D} : oSw o b a = o a b := rfl
def binR1 (i : Nat) (o : D → D → Option D) (a : D) (env : Vs.Env) : R D := R.opt ((rdE i env).bind (o a)) env
theorem go_binR {i : Nat} {o : D → D → Option D} {f : M D} : Go KD (eBinR i o f env) = Go (kBind (binR1 i o) KD) (f env) := go_bind
theorem go_binR1 {i : Nat} {o : D → D → Option D} : Go KD (binR1 i o a env) = Go KD (R.opt ((rdE i env).bind (o a)) env) := rfl
def put2 (i : Nat) (d z : D) (env : Vs.Env) : RS := match ownE i env, z with
  | some (k, ds), .int j => match ixN ds.length j with
    | some n => .next (env.set i (some (.ol k (ds.set n d))))
    | none => .no
  | _, _ => .no
def putO (i : Nat) (fi : M D) (d : D) (env : Vs.Env) : Option (Option Nat × List D) → RS
  | some _ => (fi env).toS (put2 i d)
  | none => .no
def put1 (i : Nat) (fi : M D) (d : D) (env : Vs.Env) : RS := putO i fi d env (ownE i env)
theorem go_sPut {i : Nat} {fi fv : M D} : Go KS (sPut i fi fv env) = Go (kToS (put1 i fi) KS) (fv env) := by
  unfold sPut; rw [go_toS]; rfl
theorem go_put1 {i : Nat} {fi : M D} : Go KS (put1 i fi d env) = Go KS (putO i fi d env (ownE i env)) := rfl
theorem go_putO {i : Nat} {fi : M D} {q : Option Nat × List D} : Go KS (putO i fi d env (some q)) = Go (kToS (put2 i d) KS) (fi env) := go_toS
def putN (i : Nat) (k : Option Nat) (ds : List D) (d : D) (env : Vs.Env) : Option Nat → RS
  | some n => .next (env.set i (some (.ol k (ds.set n d))))
  | none => .no
def putP (i : Nat) (j : Int) (d : D) (env : Vs.Env) : Option (Option Nat × List D) → RS
  | some (k, ds) => putN i k ds d env (ixN ds.length j)
  | none => .no
theorem go_put2 {i : Nat} {j : Int} : Go KS (put2 i d (.int j) env) = Go KS (putP i j d env (ownE i env)) := by
  unfold put2 putP putN
  cases ownE i env <;> rfl
theorem go_putP {i : Nat} {j : Int} {k : Option Nat} {ds : List D} : Go KS (putP i j d env (some (k, ds))) = Go KS (putN i k ds d env (ixN ds.length j)) := rfl
theorem go_putN {i n : Nat} {k : Option Nat} {ds : List D} : Go KS (putN i k ds d env (some n)) = KS (.next (env.set i (some (.ol k (ds.set n d))))) := rfl
theorem go_retF1 {l : M (List D)} : Go KS (sRetF l env) = Go (kToS RS.retF KS) (l env) := go_toS
def fl1 (ds : List D) (env : Vs.Env) : R (List D) := chk (ds.length ≤ sizeLine) (.ok ds env)
theorem go_fLst {l : M (List D)} : Go KL (fLst l env) = Go (kBind fl1 KL) (l env) := go_bind
theorem go_fl1 {ds : List D} (h : ds.length ≤ sizeLine) : Go KL (fl1 ds env) = KL (.ok ds env) := by unfold fl1; rw [go_chk h]; rfl
def own1 (i : Nat) (ds : List D) (env : Vs.Env) : RS := .next (env.set i (some (.ol none ds)))
theorem go_sOwn {i : Nat} {l : M (List D)} : Go KS (sOwn i l env) = Go (kToS (own1 i) KS) (l env) := go_toS
theorem go_own1 {i : Nat} {ds : List D} : Go KS (own1 i ds env) = KS (.next (env.set i (some (.ol none ds)))) := rfl
/- calls -/
def kFR (env : Vs.Env) (K : R D → Prop) : FR → Prop
  | .ok d _ => K (.ok d env)
  | .exc x _ => K (.exc x env)
  | .no => K .no
def kIo (i : Nat) (k : Option Nat) (env : Vs.Env) (K : R D → Prop) : FR → Prop
  | .ok d (some cs) => K (.ok d (env.set i (some (.ol k cs))))
  | .exc x (some cs) => K (.exc x (env.set i (some (.ol k cs))))
  | _ => K .no
def call1 (n : Nat) (F : Fs) (dds : List D) (ds : List D) (env : Vs.Env) : R D := if (ds ++ dds).length = n then (F none (ds ++ dds)).toR env else .no
theorem go_call {n : Nat} {F : Fs} {dds : List D} {l : M (List D)} : Go KD (eCall n F dds l env) = Go (kBind (call1 n F dds) KD) (l env) := go_bind
theorem go_call1 {n : Nat} {F : Fs} {dds ds : List D} (h : (ds ++ dds).length = n) : Go KD (call1 n F dds ds env) = Go (kFR env KD) (F none (ds ++ dds)) := by
  unfold call1; rw [if_pos h]; unfold Go kFR FR.toR
  cases F none (ds ++ dds) <;> rfl
theorem kFR_ok {o : Option (List D)} : kFR env KD (.ok d o) = KD (.ok d env) := rfl
theorem kFR_exc {o : Option (List D)} : kFR env KD (.exc x o) = KD (.exc x env) := rfl
def io2 (n : Nat) (F : Fs) (i : Nat) (dds ds : List D) (env : Vs.Env) : Option (Option T) → R D
  | some (some (.ol k cs)) => if (ds ++ dds).length + 1 = n then (F (some cs) (ds ++ dds)).toIo i k env else .no
  | _ => .no
def io1 (n : Nat) (F : Fs) (i : Nat) (dds ds : List D) (env : Vs.Env) : R D := io2 n F i dds ds env env[i]?
def io0 (n : Nat) (F : Fs) (i : Nat) (dds : List D) (l : M (List D)) (env : Vs.Env) : Option (Option T) → R D
  | some (some _) => (l env).bind (io1 n F i dds)
  | _ => .no
theorem go_callIo {n i : Nat} {F : Fs} {dds : List D} {l : M (List D)} : Go KD (eCallIo n F i dds l env) = Go KD (io0 n F i dds l env env[i]?) := by
  unfold eCallIo io0 io1 io2; rfl
theorem go_io0 {n i : Nat} {F : Fs} {dds : List D} {l : M (List D)} {t : T} : Go KD (io0 n F i dds l env (some (some t))) = Go (kBind (io1 n F i dds) KD) (l env) := go_bind
theorem go_io1 {n i : Nat} {F : Fs} {dds ds : List D} : Go KD (io1 n F i dds ds env) = Go KD (io2 n F i dds ds env env[i]?) := rfl
theorem go_io2 {n i : Nat} {F : Fs} {dds ds cs : List D} {k : Option Nat} (h : (ds ++ dds).length + 1 = n) : Go KD (io2 n F i dds ds env (some (some (.ol k cs)))) = Go (kIo i k env KD) (F (some cs) (ds ++ dds)) := by
  unfold io2; simp only [if_pos h]; unfold Go kIo FR.toIo
  cases F (some cs) (ds ++ dds) with
  | ok d o => cases o <;> rfl
  | exc x o => cases o <;> rfl
  | no => rfl
theorem kIo_ok {i : Nat} {k : Option Nat} {cs : List D} : kIo i k env KD (.ok d (some cs)) = KD (.ok d (env.set i (some (.ol k cs)))) := rfl
theorem kIo_exc {i : Nat} {k : Option Nat} {cs : List D} : kIo i k env KD (.exc x (some cs)) = KD (.exc x (env.set i (some (.ol k cs)))) := rfl
def calln2 (n m mk : Nat) (F : Fs) (gD : List D → List D → List D) (ds es : List D) (env : Vs.Env) : R D := if ds.length = m ∧ es.length = mk ∧ (gD ds es).length = n then (F none (gD ds es)).toR env else .no
def calln1 (n m mk : Nat) (F : Fs) (gD : List D → List D → List D) (lk : M (List D)) (ds : List D) (env : Vs.Env) : R D := (lk env).bind (calln2 n m mk F gD ds)
theorem go_callN {n m mk : Nat} {F : Fs} {gD : List D → List D → List D} {l lk : M (List D)} : Go KD (eCallN n m mk F gD l lk env) = Go (kBind (calln1 n m mk F gD lk) KD) (l env) := go_bind
theorem go_calln1 {n m mk : Nat} {F : Fs} {gD : List D → List D → List D} {lk : M (List D)} {ds : List D} : Go KD (calln1 n m mk F gD lk ds env) = Go (kBind (calln2 n m mk F gD ds) KD) (lk env) := go_bind
theorem go_calln2 {n m mk : Nat} {F : Fs} {gD : List D → List D → List D} {ds es : List D} (h : ds.length = m ∧ es.length = mk ∧ (gD ds es).length = n) : Go KD (calln2 n m mk F gD ds es env) = Go (kFR env KD) (F none (gD ds es)) := by
  unfold calln2; rw [if_pos h]; unfold Go kFR FR.toR
  cases F none (gD ds es) <;> rfl
theorem go_okF {o : Option (List D)} : Go KF (.ok d o) = KF (.ok d o) := rfl
theorem go_excF {o : Option (List D)} : Go KF (.exc x o) = KF (.exc x o) := rfl
def finO (env : Vs.Env) (d : D) : Option (Option (List D)) → FR
  | some out => .ok d out
  | none => .no
def finX (env : Vs.Env) (x : Xn) : Option (Option (List D)) → FR
  | some out => .exc x out
  | none => .no
def kRun (io : Option (List D)) (K : FR → Prop) : RS → Prop
  | .next env => Go K (finO env .non (finF io env))
  | .ret d env => Go K (finO env d (finF io env))
  | .exc x env => Go K (finX env x (finF io env))
  | _ => K .no
theorem go_runF {n : Nat} {g : MS} {io : Option (List D)} {ds : List D} : Go KF (runF n g io ds) = Go (kRun io KF) (g (env0 n io ds)) := by
  unfold runF Go kRun
  cases g (env0 n io ds) with
  | next e => simp only [finO]; split <;> simp_all [Go, finO]
  | ret d e => simp only [finO]; split <;> simp_all [Go, finO]
  | exc x e => simp only [finX]; split <;> simp_all [Go, finX]
  | _ => rfl
theorem kRun_next {io : Option (List D)} : kRun io KF (.next env) = Go KF (finO env .non (finF io env)) := rfl
theorem kRun_ret {io : Option (List D)} : kRun io KF (.ret d env) = Go KF (finO env d (finF io env)) := rfl
theorem kRun_exc {io : Option (List D)} : kRun io KF (.exc x env) = Go KF (finX env x (finF io env)) := rfl
theorem finF_none : finF none env = some none := rfl
def finS : Option (Option T) → Option (Option (List D))
  | some (some (T.ol (some 0) cs)) => some (some cs)
  | _ => none
theorem finF_some {cs : List D} : finF (some cs) env = finS (env[0]? : Option (Option T)) := by unfold finF finS; rfl
theorem finS_ol {cs : List D} : finS (some (some (.ol (some 0) cs))) = some (some cs) := rfl
theorem go_finO {o : Option (List D)} : Go KF (finO env d (some o)) = KF (.ok d o) := rfl
theorem go_finX {o : Option (List D)} : Go KF (finX env x (some o)) = KF (.exc x o) := rfl
/- iterables and loops -/
def items1 (d : D) (env : Vs.Env) : R (List D) := match d with
  | .lst xs => .ok xs env
  | .tup xs => .ok xs env
  | _ => .no
theorem go_items {f : M D} : Go KL (eItems f env) = Go (kBind items1 KL) (f env) := go_bind
theorem go_items_lst {xs : List D} : Go KL (items1 (.lst xs) env) = KL (.ok xs env) := rfl
theorem go_items_tup {xs : List D} : Go KL (items1 (.tup xs) env) = KL (.ok xs env) := rfl
def rng1 (ds : List D) (env : Vs.Env) : R (List D) := match ds with
  | [.int j] => if -(2 ^ 62) ≤ j ∧ j < 2 ^ 62 then .ok (rngD 0 j.toNat) env else .no
  | _ => .no
theorem go_rng1 {l : M (List D)} : Go KL (eRng1 l env) = Go (kBind rng1 KL) (l env) := go_bind
theorem go_rng1_ok {j : Int} (h : -(2 ^ 62) ≤ j ∧ j < 2 ^ 62) : Go KL (rng1 [.int j] env) = KL (.ok (rngD 0 j.toNat) env) := by
  show Go KL (if -(2 ^ 62) ≤ j ∧ j < 2 ^ 62 then _ else _) = _
  rw [if_pos h]; rfl
def rng2 (ds : List D) (env : Vs.Env) : R (List D) := match ds with
  | [.int i, .int j] => if -(2 ^ 62) ≤ i ∧ i < 2 ^ 62 ∧ -(2 ^ 62) ≤ j ∧ j < 2 ^ 62 then .ok (rngD i (j - i).toNat) env else .no
  | _ => .no
theorem go_rng2 {l : M (List D)} : Go KL (eRng2 l env) = Go (kBind rng2 KL) (l env) := go_bind
theorem go_rng2_ok {i j : Int} (h : -(2 ^ 62) ≤ i ∧ i < 2 ^ 62 ∧ -(2 ^ 62) ≤ j ∧ j < 2 ^ 62) : Go KL (rng2 [.int i, .int j] env) = KL (.ok (rngD i (j - i).toNat) env) := by
  show Go KL (if -(2 ^ 62) ≤ i ∧ i < 2 ^ 62 ∧ -(2 ^ 62) ≤ j ∧ j < 2 ^ 62 then _ else _) = _
  rw [if_pos h]; rfl
def zip1 (ds : List D) (env : Vs.Env) : R (List D) := match ds with
  | [.lst xs, .lst ys] => .ok (zipD xs ys) env
  | [.tup xs, .tup ys] => .ok (zipD xs ys) env
  | _ => .no
theorem go_zip {l : M (List D)} : Go KL (eZip l env) = Go (kBind zip1 KL) (l env) := go_bind
theorem go_zip_l {xs ys : List D} : Go KL (zip1 [.lst xs, .lst ys] env) = KL (.ok (zipD xs ys) env) := rfl
theorem go_zip_t {xs ys : List D} : Go KL (zip1 [.tup xs, .tup ys] env) = KL (.ok (zipD xs ys) env) := rfl
def enum1 (ds : List D) (env : Vs.Env) : R (List D) := match ds with
  | [.lst xs] => .ok (enumD xs) env
  | _ => .no
theorem go_enum {l : M (List D)} : Go KL (eEnum l env) = Go (kBind enum1 KL) (l env) := go_bind
theorem go_enum_l {xs : List D} : Go KL (enum1 [.lst xs] env) = KL (.ok (enumD xs) env) := rfl
def for1 (k : D → Vs.Env → Option Vs.Env) (g : MS) (ds : List D) (env : Vs.Env) : RS := loopS k g ds env
theorem go_sFor {l : M (List D)} {k : D → Vs.Env → Option Vs.Env} {g : MS} : Go KS (sFor l k g env) = Go (kToS (for1 k g) KS) (l env) := go_toS
theorem go_for1 {k : D → Vs.Env → Option Vs.Env} {g : MS} {ds : List D} : Go KS (for1 k g ds env) = Go KS (loopS k g ds env) := rfl
def kLoop (k : D → Vs.Env → Option Vs.Env) (g : MS) (ds : List D) (K : RS → Prop) : RS → Prop
  | .next e => Go K (loopS k g ds e)
  | .cont e => Go K (loopS k g ds e)
  | .brk e => K (.next e)
  | r => K r
theorem kLoop_next {k : D → Vs.Env → Option Vs.Env} {g : MS} {ds : List D} : kLoop k g ds KS (.next e) = Go KS (loopS k g ds e) := rfl
theorem kLoop_cont {k : D → Vs.Env → Option Vs.Env} {g : MS} {ds : List D} : kLoop k g ds KS (.cont e) = Go KS (loopS k g ds e) := rfl
theorem kLoop_brk {k : D → Vs.Env → Option Vs.Env} {g : MS} {ds : List D} : kLoop k g ds KS (.brk e) = KS (.next e) := rfl
theorem kLoop_ret {k : D → Vs.Env → Option Vs.Env} {g : MS} {ds : List D} : kLoop k g ds KS (.ret d e) = KS (.ret d e) := rfl
theorem kLoop_exc {k : D → Vs.Env → Option Vs.Env} {g : MS} {ds : List D} : kLoop k g ds KS (.exc x e) = KS (.exc x e) := rfl
theorem go_loop_nil {k : D → Vs.Env → Option Vs.Env} {g : MS} : Go KS (loopS k g [] env) = KS (.next env) := rfl
theorem go_loop_cons {k : D → Vs.Env → Option Vs.Env} {g : MS} {ds : List D} {e1 : Vs.Env} (h : k d env = some e1) : Go KS (loopS k g (d :: ds) env) = Go (kLoop k g ds KS) (g e1) := by
  conv => lhs; unfold loopS
  simp only [h]
  unfold Go kLoop
  cases g e1 <;> rfl
/-- a turn that ends as it should -/
def Turn (I : Vs.Env → Prop) : RS → Prop
  | .next e => I e
  | .cont e => I e
  | _ => False
theorem turn_next {I : Vs.Env → Prop} : Turn I (.next e) = I e := rfl
theorem turn_cont {I : Vs.Env → Prop} : Turn I (.cont e) = I e := rfl
/-- a loop that keeps an invariant; each turn ends as `next` or `continue` -/
theorem go_loop {k : D → Vs.Env → Option Vs.Env} {g : MS} (I : Nat → Vs.Env → Prop) : ∀ (ds : List D) (n : Nat) (env : Vs.Env),
    (∀ (i : Nat) (d : D) (e : Vs.Env), ds[i]? = some d → I (n + i) e → ∃ e1, k d e = some e1 ∧ Go (Turn (I (n + i + 1))) (g e1)) →
    I n env → (∀ e2, I (n + ds.length) e2 → KS (.next e2)) → Go KS (loopS k g ds env)
  | [], n, env, _, h0, hK => hK env h0
  | d :: ds, n, env, hs, h0, hK => by
    obtain ⟨e1, h1, h2⟩ := hs 0 d env rfl h0
    rw [go_loop_cons h1]
    have hn : ∀ i, n + 1 + i = n + (i + 1) := fun i => by omega
    have rcc : ∀ e2, I (n + 1) e2 → Go KS (loopS k g ds e2) := fun e2 h => go_loop I ds (n + 1) e2
      (fun i d e hi hI => by rw [hn i] at hI ⊢; exact hs (i + 1) d e (by simpa using hi) hI) h (fun e2 h => hK e2 (by rw [List.length_cons, ← hn]; exact h))
    unfold Go at h2 ⊢
    revert h2
    cases g e1 <;> intro h2 <;> first | exact rcc _ h2 | exact h2.elim
/- comprehensions -/
def lc2 (env1 : Vs.Env) (vs : List Nat) : R (List D) → R D
  | .ok ys env2 => chk (ys.length ≤ sizeLine) (.ok (.lst ys) (restE env1 env2 vs))
  | _ => .no
def lc1 (vs : List Nat) (k : D → Vs.Env → Option Vs.Env) (t : M Bool) (el : M D) (ds : List D) (env1 : Vs.Env) : R D := chk (plainE env1 vs = true) (lc2 env1 vs (loopC vs k t el ds (wipeE env1 vs)))
theorem go_lc {vs : List Nat} {l : M (List D)} {k : D → Vs.Env → Option Vs.Env} {t : M Bool} {el : M D} : Go KD (eLc vs l k t el env) = Go (kBind (lc1 vs k t el) KD) (l env) := by
  unfold eLc; rw [go_bind]; rfl
def kLc (env1 : Vs.Env) (vs : List Nat) (K : R D → Prop) : R (List D) → Prop
  | .ok ys env2 => Go K (chk (ys.length ≤ sizeLine) (.ok (.lst ys) (restE env1 env2 vs)))
  | _ => K .no
theorem go_lc1 {vs : List Nat} {k : D → Vs.Env → Option Vs.Env} {t : M Bool} {el : M D} {ds : List D} (h : plainE env vs = true) : Go KD (lc1 vs k t el ds env) = Go (kLc env vs KD) (loopC vs k t el ds (wipeE env vs)) := by
  unfold lc1; rw [go_chk h]; unfold Go kLc lc2
  cases loopC vs k t el ds (wipeE env vs) <;> rfl
theorem kLc_ok {vs : List Nat} {ys : List D} {env2 : Vs.Env} (h : ys.length ≤ sizeLine) : kLc env vs KD (.ok ys env2) = KD (.ok (.lst ys) (restE env env2 vs)) := by
  show Go KD (chk _ _) = _
  rw [go_chk h]; rfl
/-- a comprehension whose parts change nothing: base is the names' state but for the comprehension's own -/
theorem loopC_pure {vs : List Nat} {k : D → Vs.Env → Option Vs.Env} {t : M Bool} {el : M D} (p : D → Bool) (f : D → D) (w : D → Vs.Env) (e0 : Vs.Env) : ∀ (ds : List D),
    (∀ d ∈ ds, k d e0 = some (w d) ∧ wipeE (w d) vs = e0 ∧ t (w d) = .ok (p d) (w d) ∧ (p d = true → el (w d) = .ok (f d) (w d))) →
    loopC vs k t el ds e0 = .ok ((ds.filter p).map f) e0
  | [], _ => rfl
  | d :: ds, h => by
    obtain ⟨h1, h2, h3, h4⟩ := h d List.mem_cons_self
    have ih := loopC_pure p f w e0 ds (fun d hd => h d (List.mem_cons_of_mem _ hd))
    unfold loopC
    simp only [h1, h3, R.bind]
    cases hp : p d with
    | true => simp [h4 hp, h2, ih, List.filter_cons, hp]
    | false => simp [h2, ih, List.filter_cons, hp]
def kC (vs : List Nat) (k : D → Vs.Env → Option Vs.Env) (t : M Bool) (el : M D) (I : List D → Vs.Env → Prop) (acc : List D) : R D → Prop
  | .ok y e => I (acc ++ [y]) (wipeE e vs)
  | _ => False
/-- an element that ends as it should -/
def Elem (I : D → Vs.Env → Prop) : R D → Prop
  | .ok y e => I y e
  | _ => False
theorem elem_ok {I : D → Vs.Env → Prop} {y : D} : Elem I (.ok y e) = I y e := rfl
/-- a test that ends as it should -/
def Test (I : Vs.Env → Prop) (J : Vs.Env → Prop) : R Bool → Prop
  | .ok true e => I e
  | .ok false e => J e
  | _ => False
theorem test_ok {I J : Vs.Env → Prop} {b : Bool} : Test I J (.ok b e) = ((b = true → I e) ∧ (b = false → J e)) := by
  cases b <;> simp [Test]
/-- a comprehension that keeps an invariant -/
theorem go_loopC {vs : List Nat} {k : D → Vs.Env → Option Vs.Env} {t : M Bool} {el : M D} (I : Nat → List D → Vs.Env → Prop) : ∀ (ds : List D) (n : Nat) (acc : List D) (env : Vs.Env) (K : R (List D) → Prop),
    (∀ (i : Nat) (d : D) (acc : List D) (e : Vs.Env), ds[i]? = some d → I (n + i) acc e → ∃ e1, k d e = some e1 ∧
      Go (Test (fun e2 => Go (Elem fun y e3 => I (n + i + 1) (acc ++ [y]) (wipeE e3 vs)) (el e2)) (fun e2 => I (n + i + 1) acc (wipeE e2 vs))) (t e1)) →
    I n acc env → (∀ ys e2, I (n + ds.length) (acc ++ ys) e2 → K (.ok ys e2)) → Go K (loopC vs k t el ds env)
  | [], n, acc, env, K, _, h0, hK => hK [] env (by simpa using h0)
  | d :: ds, n, acc, env, K, hs, h0, hK => by
    obtain ⟨e1, h1, h2⟩ := hs 0 d acc env rfl h0
    have hn : ∀ i, n + 1 + i = n + (i + 1) := fun i => by omega
    have go : ∀ (acc' : List D) (e' : Vs.Env) (K' : R (List D) → Prop), I (n + 1) acc' e' → (∀ ys e2, I (n + 1 + ds.length) (acc' ++ ys) e2 → K' (.ok ys e2)) → Go K' (loopC vs k t el ds e') := fun acc' e' K' h hK' =>
      go_loopC I ds (n + 1) acc' e' K' (fun i d acc e hi hI => by rw [hn i] at hI ⊢; exact hs (i + 1) d acc e (by simpa using hi) hI) h hK'
    unfold loopC
    simp only [h1]
    unfold Go at h2
    revert h2
    cases t e1 with
    | ok b e2 =>
      intro h2
      show Go K (if b = true then _ else _)
      cases b with
      | true =>
        rw [if_pos rfl]
        have h3 : Elem _ (el e2) := h2
        revert h3
        cases el e2 with
        | ok y e3 =>
          intro h3
          show Go K ((loopC vs k t el ds (wipeE e3 vs)).bind fun ys env4 => R.ok (y :: ys) env4)
          rw [go_bind]
          refine go (acc ++ [y]) _ _ h3 fun ys e2 h => ?_
          exact hK (y :: ys) e2 (by rw [List.length_cons, ← hn]; simpa using h)
        | exc x e => exact fun h3 => h3.elim
        | no => exact fun h3 => h3.elim
      | false =>
        rw [if_neg (by simp)]
        refine go acc _ _ h2 fun ys e2 h => hK ys e2 (by rw [List.length_cons, ← hn]; exact h)
    | exc x e => exact fun h2 => h2.elim
    | no => exact fun h2 => h2.elim
theorem go_yes {KB : R Bool → Prop} : Go KB (eYes env) = KB (.ok true env) := rfl
/- slices -/
def sl3 (d : D) (l : Option Int) (u : Option Int) (env : Vs.Env) : R D := R.opt (oSl d l u) env
def sl2 (hi : M (Option Int)) (d : D) (l : Option Int) (env : Vs.Env) : R D := (hi env).bind (sl3 d l)
def sl1 (lo hi : M (Option Int)) (d : D) (env : Vs.Env) : R D := (lo env).bind (sl2 hi d)
theorem go_sl {f : M D} {lo hi : M (Option Int)} : Go KD (eSl f lo hi env) = Go (kBind (sl1 lo hi) KD) (f env) := go_bind
theorem go_sl1 {lo hi : M (Option Int)} : Go KD (sl1 lo hi d env) = Go (kBind (sl2 hi d) KD) (lo env) := go_bind
theorem go_sl2 {hi : M (Option Int)} {l : Option Int} : Go KD (sl2 hi d l env) = Go (kBind (sl3 d l) KD) (hi env) := go_bind
theorem go_sl3 {l u : Option Int} : Go KD (sl3 d l u env) = Go KD (R.opt (oSl d l u) env) := rfl
theorem go_noP : Go KO (eNoP env) = KO (.ok none env) := rfl
def p1 (d : D) (env : Vs.Env) : R (Option Int) := match d with
  | .int i => .ok (some i) env
  | _ => .no
theorem go_p {f : M D} : Go KO (eP f env) = Go (kBind p1 KO) (f env) := go_bind
theorem go_p1 {i : Int} : Go KO (p1 (.int i) env) = KO (.ok (some i) env) := rfl
def rev1 (d : D) (env : Vs.Env) : R D := match d with
  | .lst xs => .ok (.lst xs.reverse) env
  | _ => .no
theorem go_rev {f : M D} : Go KD (eRev f env) = Go (kBind rev1 KD) (f env) := go_bind
theorem go_rev1 {xs : List D} : Go KD (rev1 (.lst xs) env) = KD (.ok (.lst xs.reverse) env) := rfl
/- chains -/
def ch4 (o' : D → D → Option D) (y z : D) (env : Vs.Env) : R D := R.opt (o' y z) env
def ch3 (o' : D → D → Option D) (h : M D) (y : D) : Bool → Vs.Env → R D
  | true, env => (h env).bind (ch4 o' y)
  | false, env => .ok (.bl false) env
def ch2 (o o' : D → D → Option D) (h : M D) (x y : D) (env : Vs.Env) : R D := (R.opt ((o x y).bind oBl) env).bind (ch3 o' h y)
def ch1 (o o' : D → D → Option D) (g h : M D) (x : D) (env : Vs.Env) : R D := (g env).bind (ch2 o o' h x)
theorem go_chain {o o' : D → D → Option D} {f g h : M D} : Go KD (eChain o o' f g h env) = Go (kBind (ch1 o o' g h) KD) (f env) := by
  unfold eChain; rw [go_bind]
  congr 1; congr 1; funext x e; unfold ch1
  congr 1; funext y e2; unfold ch2
  congr 1; funext k e3; cases k <;> rfl
theorem go_ch1 {o o' : D → D → Option D} {g h : M D} : Go KD (ch1 o o' g h a env) = Go (kBind (ch2 o o' h a) KD) (g env) := go_bind
theorem go_ch2 {o o' : D → D → Option D} {h : M D} : Go KD (ch2 o o' h a b env) = Go (kBind (ch3 o' h b) KD) (R.opt ((o a b).bind oBl) env) := go_bind
theorem go_ch3T {o' : D → D → Option D} {h : M D} : Go KD (ch3 o' h b true env) = Go (kBind (ch4 o' b) KD) (h env) := go_bind
theorem go_ch3F {o' : D → D → Option D} {h : M D} : Go KD (ch3 o' h b false env) = KD (.ok (.bl false) env) := rfl
theorem go_ch4 {o' : D → D → Option D} : Go KD (ch4 o' a b env) = Go KD (R.opt (o' a b) env) := rfl
/- dict displays -/
def prs4 (k' : Key) (v : D) (ps : List (Key × D)) (env : Vs.Env) : R (List (Key × D)) := .ok ((k', v) :: ps) env
def prs3 (r : List (M D × M D)) (v : D) (k' : Key) (env : Vs.Env) : R (List (Key × D)) := (ePairs r env).bind (prs4 k' v)
def prs2 (r : List (M D × M D)) (k v : D) (env : Vs.Env) : R (List (Key × D)) := (R.opt (keyD k) env).bind (prs3 r v)
def prs1 (fv : M D) (r : List (M D × M D)) (k : D) (env : Vs.Env) : R (List (Key × D)) := (fv env).bind (prs2 r k)
def dic1 (ps : List (Key × D)) (env : Vs.Env) : R D := .ok (.dic (mergeD [] ps)) env
theorem go_dic {fs : List (M D × M D)} : Go KD (eDic fs env) = Go (kBind dic1 KD) (ePairs fs env) := go_bind
theorem go_dic1 {ps : List (Key × D)} : Go KD (dic1 ps env) = KD (.ok (.dic (mergeD [] ps)) env) := rfl
variable {KP : R (List (Key × D)) → Prop}
theorem go_prs_nil : Go KP (ePairs [] env) = KP (.ok [] env) := rfl
theorem go_prs {fk fv : M D} {r : List (M D × M D)} : Go KP (ePairs ((fk, fv) :: r) env) = Go (kBind (prs1 fv r) KP) (fk env) := go_bind
theorem go_prs1 {fv : M D} {r : List (M D × M D)} : Go KP (prs1 fv r a env) = Go (kBind (prs2 r a) KP) (fv env) := go_bind
theorem go_prs2 {r : List (M D × M D)} : Go KP (prs2 r a b env) = Go (kBind (prs3 r b) KP) (R.opt (keyD a) env) := go_bind
theorem go_prs3 {r : List (M D × M D)} {k' : Key} : Go KP (prs3 r b k' env) = Go (kBind (prs4 k' b) KP) (ePairs r env) := go_bind
theorem go_prs4 {k' : Key} {ps : List (Key × D)} : Go KP (prs4 k' b ps env) = KP (.ok ((k', b) :: ps) env) := rfl
/- fresh results -/
def kW (env : Vs.Env) (K : R (List D) → Prop) : WR → Prop
  | .ok ds => K (.ok ds env)
  | .exc x => K (.exc x env)
  | .no => K .no
theorem kW_ok {ds : List D} : kW env KL (.ok ds) = KL (.ok ds env) := rfl
def fcall1 (n : Nat) (F : List D → WR) (dds ds : List D) (env : Vs.Env) : R (List D) := if (ds ++ dds).length = n then (F (ds ++ dds)).toR env else .no
theorem go_fcall {n : Nat} {F : List D → WR} {dds : List D} {l : M (List D)} : Go KL (fCall n F dds l env) = Go (kBind (fcall1 n F dds) KL) (l env) := go_bind
theorem go_fcall1 {n : Nat} {F : List D → WR} {dds ds : List D} (h : (ds ++ dds).length = n) : Go KL (fcall1 n F dds ds env) = Go (kW env KL) (F (ds ++ dds)) := by
  unfold fcall1; rw [if_pos h]; unfold Go kW WR.toR
  cases F (ds ++ dds) <;> rfl
def kRunW (K : WR → Prop) : RS → Prop
  | .retF ds _ => K (.ok ds)
  | .exc x _ => K (.exc x)
  | _ => K .no
theorem go_runW {n : Nat} {g : MS} {ds : List D} : Go KW (runW n g ds) = Go (kRunW KW) (g (env0 n none ds)) := by
  unfold runW Go kRunW
  cases g (env0 n none ds) <;> rfl
theorem kRunW_ok {ds : List D} : kRunW KW (.retF ds env) = KW (.ok ds) := rfl
theorem go_okW {ds : List D} : Go KW (.ok ds) = KW (.ok ds) := rfl
def cf1 (ds : List D) (env : Vs.Env) : R D := .ok (.lst ds) env
theorem go_cf {l : M (List D)} : Go KD (eCf l env) = Go (kBind cf1 KD) (l env) := go_bind
theorem go_cf1 {ds : List D} : Go KD (cf1 ds env) = KD (.ok (.lst ds) env) := rfl
end
theorem oAdd_int {i j : Int} : oAdd (.int i) (.int j) = some (.int (i + j)) := rfl
theorem oAdd_bl {i : Int} {b : Bool} : oAdd (.int i) (.bl b) = some (.int (i + b2i b)) := rfl
theorem oAdd_lst {xs ys : List D} (h : xs.length + ys.length ≤ 10000) : oAdd (.lst xs) (.lst ys) = some (.lst (xs ++ ys)) := by
  show (if _ then _ else _) = _
  rw [if_pos (Nat.le_trans h (by decide))]
theorem oAdd_tup {xs ys : List D} (h : xs.length + ys.length ≤ 10000) : oAdd (.tup xs) (.tup ys) = some (.tup (xs ++ ys)) := by
  show (if _ then _ else _) = _
  rw [if_pos (Nat.le_trans h (by decide))]
theorem atI_0 {α : Type} {a : α} {l : List α} : atI (a :: l) 0 = some a := by
  unfold atI ixN
  rw [if_pos (by omega), if_pos (by simp only [List.length_cons]; omega)]; rfl
theorem atI_1 {α : Type} {a b : α} {l : List α} : atI (a :: b :: l) 1 = some b := by
  unfold atI ixN
  rw [if_pos (by omega), if_pos (by simp only [List.length_cons]; omega)]; rfl
theorem atI_2 {α : Type} {a b c : α} {l : List α} : atI (a :: b :: c :: l) 2 = some c := by
  unfold atI ixN
  rw [if_pos (by omega), if_pos (by simp only [List.length_cons]; omega)]; rfl
theorem atI_3 {α : Type} {a b c d : α} {l : List α} : atI (a :: b :: c :: d :: l) 3 = some d := by
  unfold atI ixN
  rw [if_pos (by omega), if_pos (by simp only [List.length_cons]; omega)]; rfl
theorem ixN_0 {n : Nat} : ixN (n + 1) 0 = some 0 := by
  unfold ixN
  rw [if_pos (by omega), if_pos (by omega)]; rfl
theorem ixN_1 {n : Nat} : ixN (n + 1 + 1) 1 = some 1 := by
  unfold ixN
  rw [if_pos (by omega), if_pos (by omega)]; rfl
theorem ixN_2 {n : Nat} : ixN (n + 1 + 1 + 1) 2 = some 2 := by
  unfold ixN
  rw [if_pos (by omega), if_pos (by omega)]; rfl
theorem sz_lit {n : Nat} (h : n ≤ 1000) : (n ≤ sizeLine) = True := eq_true (Nat.le_trans h (by decide))
/-- from one outcome to all continuations -/
theorem go_of {α : Type} {r y : α} (h : r = y) {K : α → Prop} : Go K r = K y := by rw [h]; rfl
theorem of_go {α : Type} {r y : α} (h : Go (fun z => z = y) r) : r = y := h
end Vs

set_option Elab.async false
set_option linter.all false
set_option maxRecDepth 100000
set_option maxHeartbeats 4000000
/-! VsQ: the drawing from the script, that every law carries. -/
namespace Vs
open PySem PySem.Spec PyProof.Rows L2 Evl
/-- the state of the drawing: the cells, how many were read, what is left of a great one; n bounds the count -/
def Wl (n : Nat) (W : List D) : Prop := ∃ (cells : List Int) (t r : Int), W = [.lst (cells.map D.int), .int t, .int r] ∧ 0 ≤ t ∧ t ≤ n
theorem Wl.mono {n m : Nat} {W : List D} (h : Wl n W) (hm : n ≤ m) : Wl m W := by
  obtain ⟨c, t, r, e, h1, h2⟩ := h
  exact ⟨c, t, r, e, h1, by omega⟩
theorem mulOk_l {i j : Int} (h1 : -(2 ^ 64) < i) (h2 : i < 2 ^ 64) : mulOk i j = true := by
  unfold mulOk
  rw [decide_eq_true (Or.inl ⟨h1, h2⟩)]; rfl
theorem mulOk_r {i j : Int} (h1 : -(2 ^ 64) < j) (h2 : j < 2 ^ 64) : mulOk i j = true := by
  unfold mulOk
  rw [decide_eq_true (Or.inr ⟨h1, h2⟩)]; rfl
theorem oMul_l {i j : Int} (h1 : -(2 ^ 64) < i) (h2 : i < 2 ^ 64) : oMul (.int i) (.int j) = some (.int (i * j)) := by
  show (if mulOk i j = true then _ else _) = _
  rw [if_pos (mulOk_l h1 h2)]
theorem oMul_r {i j : Int} (h1 : -(2 ^ 64) < j) (h2 : j < 2 ^ 64) : oMul (.int i) (.int j) = some (.int (i * j)) := by
  show (if mulOk i j = true then _ else _) = _
  rw [if_pos (mulOk_r h1 h2)]
theorem oPow_ok {i j : Int} (h : 0 ≤ j ∧ j ≤ 1000000 ∧ i.natAbs < 2 ^ 64) : oPow (.int i) (.int j) = some (.int (i ^ j.toNat)) := by
  show (if 0 ≤ j ∧ j ≤ 1000000 ∧ i.natAbs < 2 ^ 64 then _ else _) = _
  rw [if_pos h]
theorem oPow_lit {i j : Int} (h1 : 0 ≤ j) (h2 : j ≤ 1000000) (h3 : -18446744073709551616 < i) (h4 : i < 18446744073709551616) : oPow (.int i) (.int j) = some (.int (i ^ j.toNat)) := oPow_ok ⟨h1, h2, by omega⟩
theorem oMul_lit {i j : Int} (h3 : -18446744073709551616 < i) (h4 : i < 18446744073709551616) : oMul (.int i) (.int j) = some (.int (i * j)) := oMul_l (by omega) (by omega)
theorem oFdiv_ok {i j : Int} (h : 0 < j ∧ j < 1073741824) : oFdiv (.int i) (.int j) = some (.int (i / j)) := by
  show (if 0 < j ∧ j < 1073741824 then _ else _) = _
  rw [if_pos h]
theorem oMod_ok {i j : Int} (h : 0 < j) : oMod (.int i) (.int j) = some (.int (i % j)) := by
  show (if 0 < j then _ else _) = _
  rw [if_pos h]
theorem pyOfs_ints : ∀ ns : List Int, pyOfs (ns.map D.int) = some (ns.map PyData.int)
  | [] => rfl
  | n :: ns => by
    show (some (PyData.int n)).bind _ = _
    simp only [pyOfs_ints ns]; rfl
theorem oNe_ints_nil (ns : List Int) : oNe (.lst (ns.map D.int)) (.lst []) = some (.bl (!ns.isEmpty)) := by
  cases ns with
  | nil => rfl
  | cons n ns => rfl
theorem ixN_mod {n : Nat} {a : Int} (hn : 0 < n) : ixN n (a % (n : Int)) = some (a % (n : Int)).toNat ∧ (a % (n : Int)).toNat < n := by
  have h1 := Int.emod_nonneg a (b := (n : Int)) (by omega)
  have h2 := Int.emod_lt_of_pos a (b := (n : Int)) (by omega)
  unfold ixN
  rw [if_pos h1, if_pos (by omega)]
  exact ⟨rfl, by omega⟩
theorem atI_ints {ns : List Int} {a : Int} (h : ns ≠ []) : ∃ c, atI (ns.map D.int) (a % (((ns.map D.int).length : Nat) : Int)) = some (.int c) := by
  have hl : 0 < (ns.map D.int).length := by
    rw [List.length_map]; exact List.length_pos_iff.mpr h
  obtain ⟨h1, h2⟩ := ixN_mod (a := a) hl
  unfold atI
  rw [h1]
  rw [List.length_map] at h2 ⊢
  simp only [Option.bind_some, List.getElem?_map]
  rw [List.getElem?_eq_getElem h2]
  exact ⟨_, rfl⟩
def mixA (c1 c2 m1 c3 m2 m3 : Int) : MS :=
  (sSeq (sSet 4 (eBin oMod (eCal oIntC (eCons (eBin oPow (eBin oAdd (eBin oAdd (eBin oMod (eCal oIntC (eCons (eV 3) eNil)) (eC (.int m1))) (eBin oMul (eC (.int c3)) (eV 2))) (eC (.int c2))) (eC (.int 5))) eNil)) (eC (.int m2))))
  (sSeq (sSet 4 (eBin oMod (eCal oIntC (eCons (eBin oPow (eBin oAdd (eBin oAdd (eBin oMul (eV 4) (eBin oAdd (eBin oMul (eC (.int 2)) (eV 2)) (eC (.int c2)))) (eBin oMul (eBin oMul (eC (.int c1)) (eV 2)) (eV 2))) (eC (.int c3))) (eC (.int 3))) eNil)) (eC (.int m3))))
  (sRet (eBin oMod (eCal oIntC (eCons (eBin oFdiv (eV 4) (eC (.int 64))) eNil)) (eV 1)))))
/-- the drawing as the first laws write it -/
def drawA (c1 c2 m1 c3 m2 m3 : Int) : MS :=
  (sSeq (sIf (eBl (eBin oGt (eBinL 0 oIx (eC (.int 2))) (eC (.int 0)))) (sSeq (sSet 5 (eCal oIntC (eCons (eBinL 0 oIx (eC (.int 2))) eNil)))
  (sSeq (sPut 0 (eC (.int 2)) (eBin oFdiv (eV 5) (eV 1)))
  (sRet (eBin oMod (eCal oIntC (eCons (eV 5) eNil)) (eV 1))))) (fun env => .next env))
  (sSeq (sSet 2 (eBinL 0 oIx (eC (.int 1))))
  (sSeq (sPut 0 (eC (.int 1)) (eBin oAdd (eV 2) (eC (.int 1))))
  (sSeq (sSet 3 (eBin oAdd (eBin oMul (eC (.int c1)) (eV 2)) (eC (.int c2))))
  (sSeq (sIf (eBl (eBin oNe (eBinL 0 oIx (eC (.int 0))) (eLst eNil))) (sSet 3 (eBin oIx (eBinL 0 oIx (eC (.int 0))) (eBin oMod (eCal oIntC (eCons (eV 2) eNil)) (eCal oLen (eCons (eBinL 0 oIx (eC (.int 0))) eNil))))) (fun env => .next env))
  (sSeq (sIf (eAnd (eBl (eBin oLt (eV 2) (eCal oLen (eCons (eBinL 0 oIx (eC (.int 0))) eNil)))) (eBl (eBin oGe (eCal oAbs (eCons (eV 3) eNil)) (eBin oPow (eC (.int 10)) (eC (.int 18)))))) (sSeq (sSet 5 (eBin oAdd (eBin oMul (eC (.int 2)) (eBin oSub (eCal oAbs (eCons (eV 3) eNil)) (eBin oPow (eC (.int 10)) (eC (.int 18))))) (eCal oIntC (eCons (eBin oLt (eV 3) (eC (.int 0))) eNil))))
  (sSeq (sPut 0 (eC (.int 2)) (eBin oFdiv (eCal oIntC (eCons (eV 5) eNil)) (eV 1)))
  (sRet (eBin oMod (eCal oIntC (eCons (eV 5) eNil)) (eV 1))))) (fun env => .next env))
  (mixA c1 c2 m1 c3 m2 m3)))))))
/-- the numbers of a drawing are small -/
def smallC (c : Int) : Prop := 0 ≤ c ∧ c < 2 ^ 17
def smallM (c : Int) : Prop := 0 < c ∧ c < 2 ^ 31
theorem lt64 {i : Int} (h1 : 0 ≤ i) (h2 : i < 2 ^ 64) : i.natAbs < 2 ^ 64 := by omega
theorem mul_lt {a b A B : Int} (h1 : 0 ≤ a) (h2 : a ≤ A) (h3 : 0 ≤ b) (h4 : b ≤ B) : 0 ≤ a * b ∧ a * b ≤ A * B :=
  ⟨Int.mul_nonneg h1 h3, Int.mul_le_mul h2 h4 h3 (by omega)⟩
theorem mix_go {KS : RS → Prop} {c1 c2 m1 c3 m2 m3 : Int} (q1 : smallC c1) (q2 : smallC c2) (q3 : smallC c3) (p1 : smallM m1) (p2 : smallM m2) (p3 : smallM m3)
    {t0 t5 : Option T} {m at' cell : Int} (h0 : 0 ≤ at') (h1 : at' < 2 ^ 22) (hm : 0 < m)
    (hK : ∀ x e4, 0 ≤ x → x < m → KS (.ret (.int x) [t0, some (.fz (.int m)), some (.fz (.int at')), some (.fz (.int cell)), some (.fz (.int e4)), t5])) :
    Go KS (mixA c1 c2 m1 c3 m2 m3 [t0, some (.fz (.int m)), some (.fz (.int at')), some (.fz (.int cell)), none, t5]) := by
  obtain ⟨q11, q12⟩ := q1
  obtain ⟨q21, q22⟩ := q2
  obtain ⟨q31, q32⟩ := q3
  have e1 : oMod (.int cell) (.int m1) = some (.int (cell % m1)) := oMod_ok p1.1
  have e2 : oMul (.int c3) (.int at') = some (.int (c3 * at')) := oMul_l (by omega) (by omega)
  have b1 := Int.emod_nonneg cell (b := m1) (by have := p1.1; omega)
  have b2 := Int.emod_lt_of_pos cell p1.1
  have b3 := mul_lt q31 (Int.le_of_lt q32) h0 (Int.le_of_lt h1)
  have e3 : oPow (.int (cell % m1 + c3 * at' + c2)) (.int 5) = some (.int ((cell % m1 + c3 * at' + c2) ^ 5)) := oPow_ok ⟨by omega, by omega, lt64 (by omega) (by have := p1.2; omega)⟩
  generalize (cell % m1 + c3 * at' + c2) ^ 5 = z5 at e3
  have e4 : oMod (.int z5) (.int m2) = some (.int (z5 % m2)) := oMod_ok p2.1
  have b4 := Int.emod_nonneg z5 (b := m2) (by have := p2.1; omega)
  have b5 := Int.emod_lt_of_pos z5 p2.1
  have e5 : oMul (.int 2) (.int at') = some (.int (2 * at')) := oMul_l (by omega) (by omega)
  have e6 : oMul (.int (z5 % m2)) (.int (2 * at' + c2)) = some (.int (z5 % m2 * (2 * at' + c2))) := oMul_l (by omega) (by have := p2.2; omega)
  have e7 : oMul (.int c1) (.int at') = some (.int (c1 * at')) := oMul_l (by omega) (by omega)
  have b6 := mul_lt q11 (Int.le_of_lt q12) h0 (Int.le_of_lt h1)
  have e8 : oMul (.int (c1 * at')) (.int at') = some (.int (c1 * at' * at')) := oMul_r (by omega) (by omega)
  have b7 := mul_lt b6.1 b6.2 h0 (Int.le_of_lt h1)
  have b8 := mul_lt (a := z5 % m2) (A := 2 ^ 31) (b := 2 * at' + c2) (B := 2 ^ 23 + 2 ^ 17) b4 (by have := p2.2; omega) (by omega) (by omega)
  have e9 : oPow (.int (z5 % m2 * (2 * at' + c2) + c1 * at' * at' + c3)) (.int 3) = some (.int ((z5 % m2 * (2 * at' + c2) + c1 * at' * at' + c3) ^ 3)) := oPow_ok ⟨by omega, by omega, lt64 (by omega) (by omega)⟩
  generalize (z5 % m2 * (2 * at' + c2) + c1 * at' * at' + c3) ^ 3 = z3 at e9
  have e10 : oMod (.int z3) (.int m3) = some (.int (z3 % m3)) := oMod_ok p3.1
  have e11 : oMod (.int (z3 % m3 / 64)) (.int m) = some (.int (z3 % m3 / 64 % m)) := oMod_ok hm
  have e12 : oFdiv (.int (z3 % m3)) (.int 64) = some (.int (z3 % m3 / 64)) := oFdiv_ok (by omega)
  unfold mixA
  have k1 := hK (z3 % m3 / 64 % m) (z3 % m3) (Int.emod_nonneg _ (by omega)) (Int.emod_lt_of_pos _ hm)
  simp only [k_ok, k_exc, kS_ok, kS_exc, kq_next, kq_ret, kq_brk, kq_cont, kq_exc, kq_retF, go_ok, go_exc, go_next, go_ret, go_brk, go_cont, go_excS, go_retF, go_some, go_v, getV_fz, go_c, go_bin, go_bin1, go_bin2, go_un, go_un1, go_tru, go_tru1, go_bl, go_bl1, go_and, go_andT, go_andF, go_or, go_orT, go_orF, go_not, go_not1, go_andV, go_orV, go_andV1, go_orV1, go_andVT, go_andVF, go_orVT, go_orVF, go_notV, go_notV1, go_notV2, go_if, go_ifT, go_ifF, go_nil, go_cons, go_cons1, go_cons2, go_chk, go_lst, go_tup, go_lst1, go_tup1, go_cal, go_cal1, go_isi, go_isi1, go_seq, go_sRet, go_ret1, go_sExpr, go_ex1, go_sIf, go_sifT, go_sifF, go_optS, go_sAsg, go_asg1, go_sSet, go_set1, go_sPar, go_par1, go_sAug, go_augV, kN_eq, kNil_eq, kCons_eq, kT_eq, rdE_eq, rdO_fz, rdO_ol, ownE_eq, owO_ol, go_binL, go_binL1, go_binL2, oSw_eq, go_binR, go_binR1, go_sPut, go_put1, go_putO, go_put2, go_putP, go_putN, go_retF1, go_fLst, go_fl1, go_sOwn, go_own1, go_call, go_call1, kFR_ok, kFR_exc, go_callIo, go_io0, go_io1, go_io2, kIo_ok, kIo_exc, go_callN, go_calln1, go_calln2, go_okF, go_excF, kRun_next, kRun_ret, kRun_exc, finF_none, finF_some, finS_ol, go_finO, go_finX, go_items, go_items_lst, go_items_tup, go_rng1, go_rng1_ok, go_rng2, go_rng2_ok, go_zip, go_zip_l, go_zip_t, go_enum, go_enum_l, go_sFor, go_for1, kLoop_next, kLoop_cont, kLoop_brk, kLoop_ret, kLoop_exc, turn_next, turn_cont, go_lc, go_lc1, kLc_ok, elem_ok, go_yes, go_sl, go_sl1, go_sl2, go_sl3, go_noP, go_p, go_p1, go_rev, go_rev1, go_chain, go_ch1, go_ch2, go_ch3T, go_ch3F, go_ch4, go_dic, go_dic1, go_prs_nil, go_prs, go_prs1, go_prs2, go_prs3, go_prs4, kW_ok, go_fcall, go_fcall1, kRunW_ok, go_okW, go_cf, go_cf1, oAdd_int, oAdd_bl, atI_0, atI_1, atI_2, atI_3, ixN_0, ixN_1, ixN_2, sz_lit, List.getElem?_cons_zero, List.getElem?_cons_succ, List.set_cons_zero, List.set_cons_succ, List.nil_append, List.cons_append, List.append_nil, List.length_cons, List.length_nil, Nat.reduceSub, Nat.reduceLeDiff, Nat.zero_add, Option.bind_some, Option.map_some, reduceCtorEq, Int.reduceLT, Int.reduceLE, Int.reduceNeg, Int.reducePow, Int.reduceToNat, and_true, true_and, and_self, ite_true, ite_false, if_true, if_false, Bool.not_true, Bool.not_false, Bool.true_and, Bool.false_and, Bool.and_true, Bool.and_false, Bool.true_or, Bool.false_or, oSub, oNeg, oLt, oLe, oGt, oGe, oIs, oIsNot, Vs.isNon, oTru, oBl, oIx, oLen, oAbs, oIntC, oMax2, oMin2, oTupC, oLstC, oSl, keyD, decide_true, decide_false, plainE, fzE, gIx, List.filterMap_cons, List.filterMap_nil, wipeE, restE, List.all_cons, List.all_nil, List.getD_eq_getElem?_getD, Option.getD_some, e1, e2, e3, e4, e5, e6, e7, e8, e9, e10, e11, e12]
  exact k1
theorem draw_go {K : FR → Prop} {c1 c2 m1 c3 m2 m3 : Int} {n : Nat} {W : List D} {m : Int} (q1 : smallC c1) (q2 : smallC c2) (q3 : smallC c3) (p1 : smallM m1) (p2 : smallM m2) (p3 : smallM m3)
    (h : Wl n W) (hn : n < 2 ^ 22) (hm : 0 < m) (hm2 : m < 1073741824) (hK : ∀ W' x, Wl (n + 1) W' → 0 ≤ x → x < m → K (.ok (.int x) (some W'))) : Go K (runF 6 (drawA c1 c2 m1 c3 m2 m3) (some W) [.int m]) := by
  obtain ⟨cells, t, r, rfl, h0, h1⟩ := h
  rw [go_runF]
  show Go _ (drawA c1 c2 m1 c3 m2 m3 [some (.ol (some 0) [.lst (cells.map D.int), .int t, .int r]), some (.fz (.int m)), none, none, none, none])
  have fd : ∀ z : Int, oFdiv (.int z) (.int m) = some (.int (z / m)) := fun z => oFdiv_ok ⟨hm, hm2⟩
  have fm : ∀ z : Int, oMod (.int z) (.int m) = some (.int (z % m)) := fun z => oMod_ok hm
  have i2 : atI [D.lst (cells.map D.int), .int t, .int r] 2 = some (.int r) := rfl
  have i1 : atI [D.lst (cells.map D.int), .int t, .int r] 1 = some (.int t) := rfl
  have i0 : ∀ z, atI [D.lst (cells.map D.int), .int z, .int r] 0 = some (.lst (cells.map D.int)) := fun z => rfl
  have x2 : ixN 3 2 = some 2 := rfl
  have x1 : ixN 3 1 = some 1 := rfl
  unfold drawA
  simp only [k_ok, k_exc, kS_ok, kS_exc, kq_next, kq_ret, kq_brk, kq_cont, kq_exc, kq_retF, go_ok, go_exc, go_next, go_ret, go_brk, go_cont, go_excS, go_retF, go_some, go_v, getV_fz, go_c, go_bin, go_bin1, go_bin2, go_un, go_un1, go_tru, go_tru1, go_bl, go_bl1, go_and, go_andT, go_andF, go_or, go_orT, go_orF, go_not, go_not1, go_andV, go_orV, go_andV1, go_orV1, go_andVT, go_andVF, go_orVT, go_orVF, go_notV, go_notV1, go_notV2, go_if, go_ifT, go_ifF, go_nil, go_cons, go_cons1, go_cons2, go_chk, go_lst, go_tup, go_lst1, go_tup1, go_cal, go_cal1, go_isi, go_isi1, go_seq, go_sRet, go_ret1, go_sExpr, go_ex1, go_sIf, go_sifT, go_sifF, go_optS, go_sAsg, go_asg1, go_sSet, go_set1, go_sPar, go_par1, go_sAug, go_augV, kN_eq, kNil_eq, kCons_eq, kT_eq, rdE_eq, rdO_fz, rdO_ol, ownE_eq, owO_ol, go_binL, go_binL1, go_binL2, oSw_eq, go_binR, go_binR1, go_sPut, go_put1, go_putO, go_put2, go_putP, go_putN, go_retF1, go_fLst, go_fl1, go_sOwn, go_own1, go_call, go_call1, kFR_ok, kFR_exc, go_callIo, go_io0, go_io1, go_io2, kIo_ok, kIo_exc, go_callN, go_calln1, go_calln2, go_okF, go_excF, kRun_next, kRun_ret, kRun_exc, finF_none, finF_some, finS_ol, go_finO, go_finX, go_items, go_items_lst, go_items_tup, go_rng1, go_rng1_ok, go_rng2, go_rng2_ok, go_zip, go_zip_l, go_zip_t, go_enum, go_enum_l, go_sFor, go_for1, kLoop_next, kLoop_cont, kLoop_brk, kLoop_ret, kLoop_exc, turn_next, turn_cont, go_lc, go_lc1, kLc_ok, elem_ok, go_yes, go_sl, go_sl1, go_sl2, go_sl3, go_noP, go_p, go_p1, go_rev, go_rev1, go_chain, go_ch1, go_ch2, go_ch3T, go_ch3F, go_ch4, go_dic, go_dic1, go_prs_nil, go_prs, go_prs1, go_prs2, go_prs3, go_prs4, kW_ok, go_fcall, go_fcall1, kRunW_ok, go_okW, go_cf, go_cf1, oAdd_int, oAdd_bl, atI_0, atI_1, atI_2, atI_3, ixN_0, ixN_1, ixN_2, sz_lit, List.getElem?_cons_zero, List.getElem?_cons_succ, List.set_cons_zero, List.set_cons_succ, List.nil_append, List.cons_append, List.append_nil, List.length_cons, List.length_nil, Nat.reduceSub, Nat.reduceLeDiff, Nat.zero_add, Option.bind_some, Option.map_some, reduceCtorEq, Int.reduceLT, Int.reduceLE, Int.reduceNeg, Int.reducePow, Int.reduceToNat, and_true, true_and, and_self, ite_true, ite_false, if_true, if_false, Bool.not_true, Bool.not_false, Bool.true_and, Bool.false_and, Bool.and_true, Bool.and_false, Bool.true_or, Bool.false_or, oSub, oNeg, oLt, oLe, oGt, oGe, oIs, oIsNot, Vs.isNon, oTru, oBl, oIx, oLen, oAbs, oIntC, oMax2, oMin2, oTupC, oLstC, oSl, keyD, decide_true, decide_false, plainE, fzE, gIx, List.filterMap_cons, List.filterMap_nil, wipeE, restE, List.all_cons, List.all_nil, List.getD_eq_getElem?_getD, Option.getD_some, i2]
  by_cases hr : 0 < r
  · simp only [decide_eq_true hr, k_ok, k_exc, kS_ok, kS_exc, kq_next, kq_ret, kq_brk, kq_cont, kq_exc, kq_retF, go_ok, go_exc, go_next, go_ret, go_brk, go_cont, go_excS, go_retF, go_some, go_v, getV_fz, go_c, go_bin, go_bin1, go_bin2, go_un, go_un1, go_tru, go_tru1, go_bl, go_bl1, go_and, go_andT, go_andF, go_or, go_orT, go_orF, go_not, go_not1, go_andV, go_orV, go_andV1, go_orV1, go_andVT, go_andVF, go_orVT, go_orVF, go_notV, go_notV1, go_notV2, go_if, go_ifT, go_ifF, go_nil, go_cons, go_cons1, go_cons2, go_chk, go_lst, go_tup, go_lst1, go_tup1, go_cal, go_cal1, go_isi, go_isi1, go_seq, go_sRet, go_ret1, go_sExpr, go_ex1, go_sIf, go_sifT, go_sifF, go_optS, go_sAsg, go_asg1, go_sSet, go_set1, go_sPar, go_par1, go_sAug, go_augV, kN_eq, kNil_eq, kCons_eq, kT_eq, rdE_eq, rdO_fz, rdO_ol, ownE_eq, owO_ol, go_binL, go_binL1, go_binL2, oSw_eq, go_binR, go_binR1, go_sPut, go_put1, go_putO, go_put2, go_putP, go_putN, go_retF1, go_fLst, go_fl1, go_sOwn, go_own1, go_call, go_call1, kFR_ok, kFR_exc, go_callIo, go_io0, go_io1, go_io2, kIo_ok, kIo_exc, go_callN, go_calln1, go_calln2, go_okF, go_excF, kRun_next, kRun_ret, kRun_exc, finF_none, finF_some, finS_ol, go_finO, go_finX, go_items, go_items_lst, go_items_tup, go_rng1, go_rng1_ok, go_rng2, go_rng2_ok, go_zip, go_zip_l, go_zip_t, go_enum, go_enum_l, go_sFor, go_for1, kLoop_next, kLoop_cont, kLoop_brk, kLoop_ret, kLoop_exc, turn_next, turn_cont, go_lc, go_lc1, kLc_ok, elem_ok, go_yes, go_sl, go_sl1, go_sl2, go_sl3, go_noP, go_p, go_p1, go_rev, go_rev1, go_chain, go_ch1, go_ch2, go_ch3T, go_ch3F, go_ch4, go_dic, go_dic1, go_prs_nil, go_prs, go_prs1, go_prs2, go_prs3, go_prs4, kW_ok, go_fcall, go_fcall1, kRunW_ok, go_okW, go_cf, go_cf1, oAdd_int, oAdd_bl, atI_0, atI_1, atI_2, atI_3, ixN_0, ixN_1, ixN_2, sz_lit, List.getElem?_cons_zero, List.getElem?_cons_succ, List.set_cons_zero, List.set_cons_succ, List.nil_append, List.cons_append, List.append_nil, List.length_cons, List.length_nil, Nat.reduceSub, Nat.reduceLeDiff, Nat.zero_add, Option.bind_some, Option.map_some, reduceCtorEq, Int.reduceLT, Int.reduceLE, Int.reduceNeg, Int.reducePow, Int.reduceToNat, and_true, true_and, and_self, ite_true, ite_false, if_true, if_false, Bool.not_true, Bool.not_false, Bool.true_and, Bool.false_and, Bool.and_true, Bool.and_false, Bool.true_or, Bool.false_or, oSub, oNeg, oLt, oLe, oGt, oGe, oIs, oIsNot, Vs.isNon, oTru, oBl, oIx, oLen, oAbs, oIntC, oMax2, oMin2, oTupC, oLstC, oSl, keyD, decide_true, decide_false, plainE, fzE, gIx, List.filterMap_cons, List.filterMap_nil, wipeE, restE, List.all_cons, List.all_nil, List.getD_eq_getElem?_getD, Option.getD_some, i2, fd, fm]
    exact hK _ _ ⟨cells, t, r / m, rfl, h0, by omega⟩ (Int.emod_nonneg _ (by omega)) (Int.emod_lt_of_pos _ hm)
  · have m1' : oMul (.int c1) (.int t) = some (.int (c1 * t)) := oMul_l (by have := q1.1; omega) (by have := q1.2; omega)
    simp only [decide_eq_false hr, k_ok, k_exc, kS_ok, kS_exc, kq_next, kq_ret, kq_brk, kq_cont, kq_exc, kq_retF, go_ok, go_exc, go_next, go_ret, go_brk, go_cont, go_excS, go_retF, go_some, go_v, getV_fz, go_c, go_bin, go_bin1, go_bin2, go_un, go_un1, go_tru, go_tru1, go_bl, go_bl1, go_and, go_andT, go_andF, go_or, go_orT, go_orF, go_not, go_not1, go_andV, go_orV, go_andV1, go_orV1, go_andVT, go_andVF, go_orVT, go_orVF, go_notV, go_notV1, go_notV2, go_if, go_ifT, go_ifF, go_nil, go_cons, go_cons1, go_cons2, go_chk, go_lst, go_tup, go_lst1, go_tup1, go_cal, go_cal1, go_isi, go_isi1, go_seq, go_sRet, go_ret1, go_sExpr, go_ex1, go_sIf, go_sifT, go_sifF, go_optS, go_sAsg, go_asg1, go_sSet, go_set1, go_sPar, go_par1, go_sAug, go_augV, kN_eq, kNil_eq, kCons_eq, kT_eq, rdE_eq, rdO_fz, rdO_ol, ownE_eq, owO_ol, go_binL, go_binL1, go_binL2, oSw_eq, go_binR, go_binR1, go_sPut, go_put1, go_putO, go_put2, go_putP, go_putN, go_retF1, go_fLst, go_fl1, go_sOwn, go_own1, go_call, go_call1, kFR_ok, kFR_exc, go_callIo, go_io0, go_io1, go_io2, kIo_ok, kIo_exc, go_callN, go_calln1, go_calln2, go_okF, go_excF, kRun_next, kRun_ret, kRun_exc, finF_none, finF_some, finS_ol, go_finO, go_finX, go_items, go_items_lst, go_items_tup, go_rng1, go_rng1_ok, go_rng2, go_rng2_ok, go_zip, go_zip_l, go_zip_t, go_enum, go_enum_l, go_sFor, go_for1, kLoop_next, kLoop_cont, kLoop_brk, kLoop_ret, kLoop_exc, turn_next, turn_cont, go_lc, go_lc1, kLc_ok, elem_ok, go_yes, go_sl, go_sl1, go_sl2, go_sl3, go_noP, go_p, go_p1, go_rev, go_rev1, go_chain, go_ch1, go_ch2, go_ch3T, go_ch3F, go_ch4, go_dic, go_dic1, go_prs_nil, go_prs, go_prs1, go_prs2, go_prs3, go_prs4, kW_ok, go_fcall, go_fcall1, kRunW_ok, go_okW, go_cf, go_cf1, oAdd_int, oAdd_bl, atI_0, atI_1, atI_2, atI_3, ixN_0, ixN_1, ixN_2, sz_lit, List.getElem?_cons_zero, List.getElem?_cons_succ, List.set_cons_zero, List.set_cons_succ, List.nil_append, List.cons_append, List.append_nil, List.length_cons, List.length_nil, Nat.reduceSub, Nat.reduceLeDiff, Nat.zero_add, Option.bind_some, Option.map_some, reduceCtorEq, Int.reduceLT, Int.reduceLE, Int.reduceNeg, Int.reducePow, Int.reduceToNat, and_true, true_and, and_self, ite_true, ite_false, if_true, if_false, Bool.not_true, Bool.not_false, Bool.true_and, Bool.false_and, Bool.and_true, Bool.and_false, Bool.true_or, Bool.false_or, oSub, oNeg, oLt, oLe, oGt, oGe, oIs, oIsNot, Vs.isNon, oTru, oBl, oIx, oLen, oAbs, oIntC, oMax2, oMin2, oTupC, oLstC, oSl, keyD, decide_true, decide_false, plainE, fzE, gIx, List.filterMap_cons, List.filterMap_nil, wipeE, restE, List.all_cons, List.all_nil, List.getD_eq_getElem?_getD, Option.getD_some, i1, i0, m1', oNe_ints_nil]
    by_cases hc : cells = []
    · subst hc
      have hlt : ¬ t < 0 := by omega
      simp only [List.map_nil, List.isEmpty_nil, k_ok, k_exc, kS_ok, kS_exc, kq_next, kq_ret, kq_brk, kq_cont, kq_exc, kq_retF, go_ok, go_exc, go_next, go_ret, go_brk, go_cont, go_excS, go_retF, go_some, go_v, getV_fz, go_c, go_bin, go_bin1, go_bin2, go_un, go_un1, go_tru, go_tru1, go_bl, go_bl1, go_and, go_andT, go_andF, go_or, go_orT, go_orF, go_not, go_not1, go_andV, go_orV, go_andV1, go_orV1, go_andVT, go_andVF, go_orVT, go_orVF, go_notV, go_notV1, go_notV2, go_if, go_ifT, go_ifF, go_nil, go_cons, go_cons1, go_cons2, go_chk, go_lst, go_tup, go_lst1, go_tup1, go_cal, go_cal1, go_isi, go_isi1, go_seq, go_sRet, go_ret1, go_sExpr, go_ex1, go_sIf, go_sifT, go_sifF, go_optS, go_sAsg, go_asg1, go_sSet, go_set1, go_sPar, go_par1, go_sAug, go_augV, kN_eq, kNil_eq, kCons_eq, kT_eq, rdE_eq, rdO_fz, rdO_ol, ownE_eq, owO_ol, go_binL, go_binL1, go_binL2, oSw_eq, go_binR, go_binR1, go_sPut, go_put1, go_putO, go_put2, go_putP, go_putN, go_retF1, go_fLst, go_fl1, go_sOwn, go_own1, go_call, go_call1, kFR_ok, kFR_exc, go_callIo, go_io0, go_io1, go_io2, kIo_ok, kIo_exc, go_callN, go_calln1, go_calln2, go_okF, go_excF, kRun_next, kRun_ret, kRun_exc, finF_none, finF_some, finS_ol, go_finO, go_finX, go_items, go_items_lst, go_items_tup, go_rng1, go_rng1_ok, go_rng2, go_rng2_ok, go_zip, go_zip_l, go_zip_t, go_enum, go_enum_l, go_sFor, go_for1, kLoop_next, kLoop_cont, kLoop_brk, kLoop_ret, kLoop_exc, turn_next, turn_cont, go_lc, go_lc1, kLc_ok, elem_ok, go_yes, go_sl, go_sl1, go_sl2, go_sl3, go_noP, go_p, go_p1, go_rev, go_rev1, go_chain, go_ch1, go_ch2, go_ch3T, go_ch3F, go_ch4, go_dic, go_dic1, go_prs_nil, go_prs, go_prs1, go_prs2, go_prs3, go_prs4, kW_ok, go_fcall, go_fcall1, kRunW_ok, go_okW, go_cf, go_cf1, oAdd_int, oAdd_bl, atI_0, atI_1, atI_2, atI_3, ixN_0, ixN_1, ixN_2, sz_lit, List.getElem?_cons_zero, List.getElem?_cons_succ, List.set_cons_zero, List.set_cons_succ, List.nil_append, List.cons_append, List.append_nil, List.length_cons, List.length_nil, Nat.reduceSub, Nat.reduceLeDiff, Nat.zero_add, Option.bind_some, Option.map_some, reduceCtorEq, Int.reduceLT, Int.reduceLE, Int.reduceNeg, Int.reducePow, Int.reduceToNat, and_true, true_and, and_self, ite_true, ite_false, if_true, if_false, Bool.not_true, Bool.not_false, Bool.true_and, Bool.false_and, Bool.and_true, Bool.and_false, Bool.true_or, Bool.false_or, oSub, oNeg, oLt, oLe, oGt, oGe, oIs, oIsNot, Vs.isNon, oTru, oBl, oIx, oLen, oAbs, oIntC, oMax2, oMin2, oTupC, oLstC, oSl, keyD, decide_true, decide_false, plainE, fzE, gIx, List.filterMap_cons, List.filterMap_nil, wipeE, restE, List.all_cons, List.all_nil, List.getD_eq_getElem?_getD, Option.getD_some, i0, Int.natCast_zero, decide_eq_false hlt]
      refine mix_go q1 q2 q3 p1 p2 p3 h0 (by omega) hm fun x e4 hx1 hx2 => ?_
      simp only [k_ok, k_exc, kS_ok, kS_exc, kq_next, kq_ret, kq_brk, kq_cont, kq_exc, kq_retF, go_ok, go_exc, go_next, go_ret, go_brk, go_cont, go_excS, go_retF, go_some, go_v, getV_fz, go_c, go_bin, go_bin1, go_bin2, go_un, go_un1, go_tru, go_tru1, go_bl, go_bl1, go_and, go_andT, go_andF, go_or, go_orT, go_orF, go_not, go_not1, go_andV, go_orV, go_andV1, go_orV1, go_andVT, go_andVF, go_orVT, go_orVF, go_notV, go_notV1, go_notV2, go_if, go_ifT, go_ifF, go_nil, go_cons, go_cons1, go_cons2, go_chk, go_lst, go_tup, go_lst1, go_tup1, go_cal, go_cal1, go_isi, go_isi1, go_seq, go_sRet, go_ret1, go_sExpr, go_ex1, go_sIf, go_sifT, go_sifF, go_optS, go_sAsg, go_asg1, go_sSet, go_set1, go_sPar, go_par1, go_sAug, go_augV, kN_eq, kNil_eq, kCons_eq, kT_eq, rdE_eq, rdO_fz, rdO_ol, ownE_eq, owO_ol, go_binL, go_binL1, go_binL2, oSw_eq, go_binR, go_binR1, go_sPut, go_put1, go_putO, go_put2, go_putP, go_putN, go_retF1, go_fLst, go_fl1, go_sOwn, go_own1, go_call, go_call1, kFR_ok, kFR_exc, go_callIo, go_io0, go_io1, go_io2, kIo_ok, kIo_exc, go_callN, go_calln1, go_calln2, go_okF, go_excF, kRun_next, kRun_ret, kRun_exc, finF_none, finF_some, finS_ol, go_finO, go_finX, go_items, go_items_lst, go_items_tup, go_rng1, go_rng1_ok, go_rng2, go_rng2_ok, go_zip, go_zip_l, go_zip_t, go_enum, go_enum_l, go_sFor, go_for1, kLoop_next, kLoop_cont, kLoop_brk, kLoop_ret, kLoop_exc, turn_next, turn_cont, go_lc, go_lc1, kLc_ok, elem_ok, go_yes, go_sl, go_sl1, go_sl2, go_sl3, go_noP, go_p, go_p1, go_rev, go_rev1, go_chain, go_ch1, go_ch2, go_ch3T, go_ch3F, go_ch4, go_dic, go_dic1, go_prs_nil, go_prs, go_prs1, go_prs2, go_prs3, go_prs4, kW_ok, go_fcall, go_fcall1, kRunW_ok, go_okW, go_cf, go_cf1, oAdd_int, oAdd_bl, atI_0, atI_1, atI_2, atI_3, ixN_0, ixN_1, ixN_2, sz_lit, List.getElem?_cons_zero, List.getElem?_cons_succ, List.set_cons_zero, List.set_cons_succ, List.nil_append, List.cons_append, List.append_nil, List.length_cons, List.length_nil, Nat.reduceSub, Nat.reduceLeDiff, Nat.zero_add, Option.bind_some, Option.map_some, reduceCtorEq, Int.reduceLT, Int.reduceLE, Int.reduceNeg, Int.reducePow, Int.reduceToNat, and_true, true_and, and_self, ite_true, ite_false, if_true, if_false, Bool.not_true, Bool.not_false, Bool.true_and, Bool.false_and, Bool.and_true, Bool.and_false, Bool.true_or, Bool.false_or, oSub, oNeg, oLt, oLe, oGt, oGe, oIs, oIsNot, Vs.isNon, oTru, oBl, oIx, oLen, oAbs, oIntC, oMax2, oMin2, oTupC, oLstC, oSl, keyD, decide_true, decide_false, plainE, fzE, gIx, List.filterMap_cons, List.filterMap_nil, wipeE, restE, List.all_cons, List.all_nil, List.getD_eq_getElem?_getD, Option.getD_some]
      exact hK _ _ ⟨[], t + 1, r, rfl, by omega, by omega⟩ hx1 hx2
    · obtain ⟨c, hc2⟩ := atI_ints (a := t) hc
      have hie : cells.isEmpty = false := by cases cells <;> simp_all
      have hlen : 0 < ((List.map D.int cells).length : Int) := by
        rw [List.length_map]; have := List.length_pos_iff.mpr hc; omega
      have fl : oMod (.int t) (.int ((List.map D.int cells).length : Int)) = some (.int (t % ((List.map D.int cells).length : Int))) := oMod_ok hlen
      have hpw : oPow (.int 10) (.int 18) = some (.int (10 ^ 18)) := rfl
      simp only [hie, k_ok, k_exc, kS_ok, kS_exc, kq_next, kq_ret, kq_brk, kq_cont, kq_exc, kq_retF, go_ok, go_exc, go_next, go_ret, go_brk, go_cont, go_excS, go_retF, go_some, go_v, getV_fz, go_c, go_bin, go_bin1, go_bin2, go_un, go_un1, go_tru, go_tru1, go_bl, go_bl1, go_and, go_andT, go_andF, go_or, go_orT, go_orF, go_not, go_not1, go_andV, go_orV, go_andV1, go_orV1, go_andVT, go_andVF, go_orVT, go_orVF, go_notV, go_notV1, go_notV2, go_if, go_ifT, go_ifF, go_nil, go_cons, go_cons1, go_cons2, go_chk, go_lst, go_tup, go_lst1, go_tup1, go_cal, go_cal1, go_isi, go_isi1, go_seq, go_sRet, go_ret1, go_sExpr, go_ex1, go_sIf, go_sifT, go_sifF, go_optS, go_sAsg, go_asg1, go_sSet, go_set1, go_sPar, go_par1, go_sAug, go_augV, kN_eq, kNil_eq, kCons_eq, kT_eq, rdE_eq, rdO_fz, rdO_ol, ownE_eq, owO_ol, go_binL, go_binL1, go_binL2, oSw_eq, go_binR, go_binR1, go_sPut, go_put1, go_putO, go_put2, go_putP, go_putN, go_retF1, go_fLst, go_fl1, go_sOwn, go_own1, go_call, go_call1, kFR_ok, kFR_exc, go_callIo, go_io0, go_io1, go_io2, kIo_ok, kIo_exc, go_callN, go_calln1, go_calln2, go_okF, go_excF, kRun_next, kRun_ret, kRun_exc, finF_none, finF_some, finS_ol, go_finO, go_finX, go_items, go_items_lst, go_items_tup, go_rng1, go_rng1_ok, go_rng2, go_rng2_ok, go_zip, go_zip_l, go_zip_t, go_enum, go_enum_l, go_sFor, go_for1, kLoop_next, kLoop_cont, kLoop_brk, kLoop_ret, kLoop_exc, turn_next, turn_cont, go_lc, go_lc1, kLc_ok, elem_ok, go_yes, go_sl, go_sl1, go_sl2, go_sl3, go_noP, go_p, go_p1, go_rev, go_rev1, go_chain, go_ch1, go_ch2, go_ch3T, go_ch3F, go_ch4, go_dic, go_dic1, go_prs_nil, go_prs, go_prs1, go_prs2, go_prs3, go_prs4, kW_ok, go_fcall, go_fcall1, kRunW_ok, go_okW, go_cf, go_cf1, oAdd_int, oAdd_bl, atI_0, atI_1, atI_2, atI_3, ixN_0, ixN_1, ixN_2, sz_lit, List.getElem?_cons_zero, List.getElem?_cons_succ, List.set_cons_zero, List.set_cons_succ, List.nil_append, List.cons_append, List.append_nil, List.length_cons, List.length_nil, Nat.reduceSub, Nat.reduceLeDiff, Nat.zero_add, Option.bind_some, Option.map_some, reduceCtorEq, Int.reduceLT, Int.reduceLE, Int.reduceNeg, Int.reducePow, Int.reduceToNat, and_true, true_and, and_self, ite_true, ite_false, if_true, if_false, Bool.not_true, Bool.not_false, Bool.true_and, Bool.false_and, Bool.and_true, Bool.and_false, Bool.true_or, Bool.false_or, oSub, oNeg, oLt, oLe, oGt, oGe, oIs, oIsNot, Vs.isNon, oTru, oBl, oIx, oLen, oAbs, oIntC, oMax2, oMin2, oTupC, oLstC, oSl, keyD, decide_true, decide_false, plainE, fzE, gIx, List.filterMap_cons, List.filterMap_nil, wipeE, restE, List.all_cons, List.all_nil, List.getD_eq_getElem?_getD, Option.getD_some, i0, fl, hc2]
      have fin : ∀ (r5 : Option T), Go (kRun (some [D.lst (cells.map D.int), .int t, .int r]) K) (mixA c1 c2 m1 c3 m2 m3 [some (.ol (some 0) [D.lst (cells.map D.int), .int (t + 1), .int r]), some (.fz (.int m)), some (.fz (.int t)), some (.fz (.int c)), none, r5]) := fun r5 => by
        refine mix_go q1 q2 q3 p1 p2 p3 h0 (by omega) hm fun x e4 hx1 hx2 => ?_
        simp only [k_ok, k_exc, kS_ok, kS_exc, kq_next, kq_ret, kq_brk, kq_cont, kq_exc, kq_retF, go_ok, go_exc, go_next, go_ret, go_brk, go_cont, go_excS, go_retF, go_some, go_v, getV_fz, go_c, go_bin, go_bin1, go_bin2, go_un, go_un1, go_tru, go_tru1, go_bl, go_bl1, go_and, go_andT, go_andF, go_or, go_orT, go_orF, go_not, go_not1, go_andV, go_orV, go_andV1, go_orV1, go_andVT, go_andVF, go_orVT, go_orVF, go_notV, go_notV1, go_notV2, go_if, go_ifT, go_ifF, go_nil, go_cons, go_cons1, go_cons2, go_chk, go_lst, go_tup, go_lst1, go_tup1, go_cal, go_cal1, go_isi, go_isi1, go_seq, go_sRet, go_ret1, go_sExpr, go_ex1, go_sIf, go_sifT, go_sifF, go_optS, go_sAsg, go_asg1, go_sSet, go_set1, go_sPar, go_par1, go_sAug, go_augV, kN_eq, kNil_eq, kCons_eq, kT_eq, rdE_eq, rdO_fz, rdO_ol, ownE_eq, owO_ol, go_binL, go_binL1, go_binL2, oSw_eq, go_binR, go_binR1, go_sPut, go_put1, go_putO, go_put2, go_putP, go_putN, go_retF1, go_fLst, go_fl1, go_sOwn, go_own1, go_call, go_call1, kFR_ok, kFR_exc, go_callIo, go_io0, go_io1, go_io2, kIo_ok, kIo_exc, go_callN, go_calln1, go_calln2, go_okF, go_excF, kRun_next, kRun_ret, kRun_exc, finF_none, finF_some, finS_ol, go_finO, go_finX, go_items, go_items_lst, go_items_tup, go_rng1, go_rng1_ok, go_rng2, go_rng2_ok, go_zip, go_zip_l, go_zip_t, go_enum, go_enum_l, go_sFor, go_for1, kLoop_next, kLoop_cont, kLoop_brk, kLoop_ret, kLoop_exc, turn_next, turn_cont, go_lc, go_lc1, kLc_ok, elem_ok, go_yes, go_sl, go_sl1, go_sl2, go_sl3, go_noP, go_p, go_p1, go_rev, go_rev1, go_chain, go_ch1, go_ch2, go_ch3T, go_ch3F, go_ch4, go_dic, go_dic1, go_prs_nil, go_prs, go_prs1, go_prs2, go_prs3, go_prs4, kW_ok, go_fcall, go_fcall1, kRunW_ok, go_okW, go_cf, go_cf1, oAdd_int, oAdd_bl, atI_0, atI_1, atI_2, atI_3, ixN_0, ixN_1, ixN_2, sz_lit, List.getElem?_cons_zero, List.getElem?_cons_succ, List.set_cons_zero, List.set_cons_succ, List.nil_append, List.cons_append, List.append_nil, List.length_cons, List.length_nil, Nat.reduceSub, Nat.reduceLeDiff, Nat.zero_add, Option.bind_some, Option.map_some, reduceCtorEq, Int.reduceLT, Int.reduceLE, Int.reduceNeg, Int.reducePow, Int.reduceToNat, and_true, true_and, and_self, ite_true, ite_false, if_true, if_false, Bool.not_true, Bool.not_false, Bool.true_and, Bool.false_and, Bool.and_true, Bool.and_false, Bool.true_or, Bool.false_or, oSub, oNeg, oLt, oLe, oGt, oGe, oIs, oIsNot, Vs.isNon, oTru, oBl, oIx, oLen, oAbs, oIntC, oMax2, oMin2, oTupC, oLstC, oSl, keyD, decide_true, decide_false, plainE, fzE, gIx, List.filterMap_cons, List.filterMap_nil, wipeE, restE, List.all_cons, List.all_nil, List.getD_eq_getElem?_getD, Option.getD_some]
        exact hK _ _ ⟨cells, t + 1, r, rfl, by omega, by omega⟩ hx1 hx2
      by_cases hlt : t < ((List.map D.int cells).length : Int)
      · simp only [decide_eq_true hlt, k_ok, k_exc, kS_ok, kS_exc, kq_next, kq_ret, kq_brk, kq_cont, kq_exc, kq_retF, go_ok, go_exc, go_next, go_ret, go_brk, go_cont, go_excS, go_retF, go_some, go_v, getV_fz, go_c, go_bin, go_bin1, go_bin2, go_un, go_un1, go_tru, go_tru1, go_bl, go_bl1, go_and, go_andT, go_andF, go_or, go_orT, go_orF, go_not, go_not1, go_andV, go_orV, go_andV1, go_orV1, go_andVT, go_andVF, go_orVT, go_orVF, go_notV, go_notV1, go_notV2, go_if, go_ifT, go_ifF, go_nil, go_cons, go_cons1, go_cons2, go_chk, go_lst, go_tup, go_lst1, go_tup1, go_cal, go_cal1, go_isi, go_isi1, go_seq, go_sRet, go_ret1, go_sExpr, go_ex1, go_sIf, go_sifT, go_sifF, go_optS, go_sAsg, go_asg1, go_sSet, go_set1, go_sPar, go_par1, go_sAug, go_augV, kN_eq, kNil_eq, kCons_eq, kT_eq, rdE_eq, rdO_fz, rdO_ol, ownE_eq, owO_ol, go_binL, go_binL1, go_binL2, oSw_eq, go_binR, go_binR1, go_sPut, go_put1, go_putO, go_put2, go_putP, go_putN, go_retF1, go_fLst, go_fl1, go_sOwn, go_own1, go_call, go_call1, kFR_ok, kFR_exc, go_callIo, go_io0, go_io1, go_io2, kIo_ok, kIo_exc, go_callN, go_calln1, go_calln2, go_okF, go_excF, kRun_next, kRun_ret, kRun_exc, finF_none, finF_some, finS_ol, go_finO, go_finX, go_items, go_items_lst, go_items_tup, go_rng1, go_rng1_ok, go_rng2, go_rng2_ok, go_zip, go_zip_l, go_zip_t, go_enum, go_enum_l, go_sFor, go_for1, kLoop_next, kLoop_cont, kLoop_brk, kLoop_ret, kLoop_exc, turn_next, turn_cont, go_lc, go_lc1, kLc_ok, elem_ok, go_yes, go_sl, go_sl1, go_sl2, go_sl3, go_noP, go_p, go_p1, go_rev, go_rev1, go_chain, go_ch1, go_ch2, go_ch3T, go_ch3F, go_ch4, go_dic, go_dic1, go_prs_nil, go_prs, go_prs1, go_prs2, go_prs3, go_prs4, kW_ok, go_fcall, go_fcall1, kRunW_ok, go_okW, go_cf, go_cf1, oAdd_int, oAdd_bl, atI_0, atI_1, atI_2, atI_3, ixN_0, ixN_1, ixN_2, sz_lit, List.getElem?_cons_zero, List.getElem?_cons_succ, List.set_cons_zero, List.set_cons_succ, List.nil_append, List.cons_append, List.append_nil, List.length_cons, List.length_nil, Nat.reduceSub, Nat.reduceLeDiff, Nat.zero_add, Option.bind_some, Option.map_some, reduceCtorEq, Int.reduceLT, Int.reduceLE, Int.reduceNeg, Int.reducePow, Int.reduceToNat, and_true, true_and, and_self, ite_true, ite_false, if_true, if_false, Bool.not_true, Bool.not_false, Bool.true_and, Bool.false_and, Bool.and_true, Bool.and_false, Bool.true_or, Bool.false_or, oSub, oNeg, oLt, oLe, oGt, oGe, oIs, oIsNot, Vs.isNon, oTru, oBl, oIx, oLen, oAbs, oIntC, oMax2, oMin2, oTupC, oLstC, oSl, keyD, decide_true, decide_false, plainE, fzE, gIx, List.filterMap_cons, List.filterMap_nil, wipeE, restE, List.all_cons, List.all_nil, List.getD_eq_getElem?_getD, Option.getD_some, hpw]
        by_cases hbig : (1000000000000000000 : Int) ≤ if c < 0 then -c else c
        · have h2 : ∀ z : Int, oMul (.int 2) (.int z) = some (.int (2 * z)) := fun z => oMul_l (by omega) (by omega)
          simp only [decide_eq_true hbig, k_ok, k_exc, kS_ok, kS_exc, kq_next, kq_ret, kq_brk, kq_cont, kq_exc, kq_retF, go_ok, go_exc, go_next, go_ret, go_brk, go_cont, go_excS, go_retF, go_some, go_v, getV_fz, go_c, go_bin, go_bin1, go_bin2, go_un, go_un1, go_tru, go_tru1, go_bl, go_bl1, go_and, go_andT, go_andF, go_or, go_orT, go_orF, go_not, go_not1, go_andV, go_orV, go_andV1, go_orV1, go_andVT, go_andVF, go_orVT, go_orVF, go_notV, go_notV1, go_notV2, go_if, go_ifT, go_ifF, go_nil, go_cons, go_cons1, go_cons2, go_chk, go_lst, go_tup, go_lst1, go_tup1, go_cal, go_cal1, go_isi, go_isi1, go_seq, go_sRet, go_ret1, go_sExpr, go_ex1, go_sIf, go_sifT, go_sifF, go_optS, go_sAsg, go_asg1, go_sSet, go_set1, go_sPar, go_par1, go_sAug, go_augV, kN_eq, kNil_eq, kCons_eq, kT_eq, rdE_eq, rdO_fz, rdO_ol, ownE_eq, owO_ol, go_binL, go_binL1, go_binL2, oSw_eq, go_binR, go_binR1, go_sPut, go_put1, go_putO, go_put2, go_putP, go_putN, go_retF1, go_fLst, go_fl1, go_sOwn, go_own1, go_call, go_call1, kFR_ok, kFR_exc, go_callIo, go_io0, go_io1, go_io2, kIo_ok, kIo_exc, go_callN, go_calln1, go_calln2, go_okF, go_excF, kRun_next, kRun_ret, kRun_exc, finF_none, finF_some, finS_ol, go_finO, go_finX, go_items, go_items_lst, go_items_tup, go_rng1, go_rng1_ok, go_rng2, go_rng2_ok, go_zip, go_zip_l, go_zip_t, go_enum, go_enum_l, go_sFor, go_for1, kLoop_next, kLoop_cont, kLoop_brk, kLoop_ret, kLoop_exc, turn_next, turn_cont, go_lc, go_lc1, kLc_ok, elem_ok, go_yes, go_sl, go_sl1, go_sl2, go_sl3, go_noP, go_p, go_p1, go_rev, go_rev1, go_chain, go_ch1, go_ch2, go_ch3T, go_ch3F, go_ch4, go_dic, go_dic1, go_prs_nil, go_prs, go_prs1, go_prs2, go_prs3, go_prs4, kW_ok, go_fcall, go_fcall1, kRunW_ok, go_okW, go_cf, go_cf1, oAdd_int, oAdd_bl, atI_0, atI_1, atI_2, atI_3, ixN_0, ixN_1, ixN_2, sz_lit, List.getElem?_cons_zero, List.getElem?_cons_succ, List.set_cons_zero, List.set_cons_succ, List.nil_append, List.cons_append, List.append_nil, List.length_cons, List.length_nil, Nat.reduceSub, Nat.reduceLeDiff, Nat.zero_add, Option.bind_some, Option.map_some, reduceCtorEq, Int.reduceLT, Int.reduceLE, Int.reduceNeg, Int.reducePow, Int.reduceToNat, and_true, true_and, and_self, ite_true, ite_false, if_true, if_false, Bool.not_true, Bool.not_false, Bool.true_and, Bool.false_and, Bool.and_true, Bool.and_false, Bool.true_or, Bool.false_or, oSub, oNeg, oLt, oLe, oGt, oGe, oIs, oIsNot, Vs.isNon, oTru, oBl, oIx, oLen, oAbs, oIntC, oMax2, oMin2, oTupC, oLstC, oSl, keyD, decide_true, decide_false, plainE, fzE, gIx, List.filterMap_cons, List.filterMap_nil, wipeE, restE, List.all_cons, List.all_nil, List.getD_eq_getElem?_getD, Option.getD_some, hpw, h2, fd, fm]
          exact hK _ _ ⟨cells, t + 1, _, rfl, by omega, by omega⟩ (Int.emod_nonneg _ (by omega)) (Int.emod_lt_of_pos _ hm)
        · simp only [decide_eq_false hbig, k_ok, k_exc, kS_ok, kS_exc, kq_next, kq_ret, kq_brk, kq_cont, kq_exc, kq_retF, go_ok, go_exc, go_next, go_ret, go_brk, go_cont, go_excS, go_retF, go_some, go_v, getV_fz, go_c, go_bin, go_bin1, go_bin2, go_un, go_un1, go_tru, go_tru1, go_bl, go_bl1, go_and, go_andT, go_andF, go_or, go_orT, go_orF, go_not, go_not1, go_andV, go_orV, go_andV1, go_orV1, go_andVT, go_andVF, go_orVT, go_orVF, go_notV, go_notV1, go_notV2, go_if, go_ifT, go_ifF, go_nil, go_cons, go_cons1, go_cons2, go_chk, go_lst, go_tup, go_lst1, go_tup1, go_cal, go_cal1, go_isi, go_isi1, go_seq, go_sRet, go_ret1, go_sExpr, go_ex1, go_sIf, go_sifT, go_sifF, go_optS, go_sAsg, go_asg1, go_sSet, go_set1, go_sPar, go_par1, go_sAug, go_augV, kN_eq, kNil_eq, kCons_eq, kT_eq, rdE_eq, rdO_fz, rdO_ol, ownE_eq, owO_ol, go_binL, go_binL1, go_binL2, oSw_eq, go_binR, go_binR1, go_sPut, go_put1, go_putO, go_put2, go_putP, go_putN, go_retF1, go_fLst, go_fl1, go_sOwn, go_own1, go_call, go_call1, kFR_ok, kFR_exc, go_callIo, go_io0, go_io1, go_io2, kIo_ok, kIo_exc, go_callN, go_calln1, go_calln2, go_okF, go_excF, kRun_next, kRun_ret, kRun_exc, finF_none, finF_some, finS_ol, go_finO, go_finX, go_items, go_items_lst, go_items_tup, go_rng1, go_rng1_ok, go_rng2, go_rng2_ok, go_zip, go_zip_l, go_zip_t, go_enum, go_enum_l, go_sFor, go_for1, kLoop_next, kLoop_cont, kLoop_brk, kLoop_ret, kLoop_exc, turn_next, turn_cont, go_lc, go_lc1, kLc_ok, elem_ok, go_yes, go_sl, go_sl1, go_sl2, go_sl3, go_noP, go_p, go_p1, go_rev, go_rev1, go_chain, go_ch1, go_ch2, go_ch3T, go_ch3F, go_ch4, go_dic, go_dic1, go_prs_nil, go_prs, go_prs1, go_prs2, go_prs3, go_prs4, kW_ok, go_fcall, go_fcall1, kRunW_ok, go_okW, go_cf, go_cf1, oAdd_int, oAdd_bl, atI_0, atI_1, atI_2, atI_3, ixN_0, ixN_1, ixN_2, sz_lit, List.getElem?_cons_zero, List.getElem?_cons_succ, List.set_cons_zero, List.set_cons_succ, List.nil_append, List.cons_append, List.append_nil, List.length_cons, List.length_nil, Nat.reduceSub, Nat.reduceLeDiff, Nat.zero_add, Option.bind_some, Option.map_some, reduceCtorEq, Int.reduceLT, Int.reduceLE, Int.reduceNeg, Int.reducePow, Int.reduceToNat, and_true, true_and, and_self, ite_true, ite_false, if_true, if_false, Bool.not_true, Bool.not_false, Bool.true_and, Bool.false_and, Bool.and_true, Bool.and_false, Bool.true_or, Bool.false_or, oSub, oNeg, oLt, oLe, oGt, oGe, oIs, oIsNot, Vs.isNon, oTru, oBl, oIx, oLen, oAbs, oIntC, oMax2, oMin2, oTupC, oLstC, oSl, keyD, decide_true, decide_false, plainE, fzE, gIx, List.filterMap_cons, List.filterMap_nil, wipeE, restE, List.all_cons, List.all_nil, List.getD_eq_getElem?_getD, Option.getD_some]
          exact fin _
      · simp only [decide_eq_false hlt, k_ok, k_exc, kS_ok, kS_exc, kq_next, kq_ret, kq_brk, kq_cont, kq_exc, kq_retF, go_ok, go_exc, go_next, go_ret, go_brk, go_cont, go_excS, go_retF, go_some, go_v, getV_fz, go_c, go_bin, go_bin1, go_bin2, go_un, go_un1, go_tru, go_tru1, go_bl, go_bl1, go_and, go_andT, go_andF, go_or, go_orT, go_orF, go_not, go_not1, go_andV, go_orV, go_andV1, go_orV1, go_andVT, go_andVF, go_orVT, go_orVF, go_notV, go_notV1, go_notV2, go_if, go_ifT, go_ifF, go_nil, go_cons, go_cons1, go_cons2, go_chk, go_lst, go_tup, go_lst1, go_tup1, go_cal, go_cal1, go_isi, go_isi1, go_seq, go_sRet, go_ret1, go_sExpr, go_ex1, go_sIf, go_sifT, go_sifF, go_optS, go_sAsg, go_asg1, go_sSet, go_set1, go_sPar, go_par1, go_sAug, go_augV, kN_eq, kNil_eq, kCons_eq, kT_eq, rdE_eq, rdO_fz, rdO_ol, ownE_eq, owO_ol, go_binL, go_binL1, go_binL2, oSw_eq, go_binR, go_binR1, go_sPut, go_put1, go_putO, go_put2, go_putP, go_putN, go_retF1, go_fLst, go_fl1, go_sOwn, go_own1, go_call, go_call1, kFR_ok, kFR_exc, go_callIo, go_io0, go_io1, go_io2, kIo_ok, kIo_exc, go_callN, go_calln1, go_calln2, go_okF, go_excF, kRun_next, kRun_ret, kRun_exc, finF_none, finF_some, finS_ol, go_finO, go_finX, go_items, go_items_lst, go_items_tup, go_rng1, go_rng1_ok, go_rng2, go_rng2_ok, go_zip, go_zip_l, go_zip_t, go_enum, go_enum_l, go_sFor, go_for1, kLoop_next, kLoop_cont, kLoop_brk, kLoop_ret, kLoop_exc, turn_next, turn_cont, go_lc, go_lc1, kLc_ok, elem_ok, go_yes, go_sl, go_sl1, go_sl2, go_sl3, go_noP, go_p, go_p1, go_rev, go_rev1, go_chain, go_ch1, go_ch2, go_ch3T, go_ch3F, go_ch4, go_dic, go_dic1, go_prs_nil, go_prs, go_prs1, go_prs2, go_prs3, go_prs4, kW_ok, go_fcall, go_fcall1, kRunW_ok, go_okW, go_cf, go_cf1, oAdd_int, oAdd_bl, atI_0, atI_1, atI_2, atI_3, ixN_0, ixN_1, ixN_2, sz_lit, List.getElem?_cons_zero, List.getElem?_cons_succ, List.set_cons_zero, List.set_cons_succ, List.nil_append, List.cons_append, List.append_nil, List.length_cons, List.length_nil, Nat.reduceSub, Nat.reduceLeDiff, Nat.zero_add, Option.bind_some, Option.map_some, reduceCtorEq, Int.reduceLT, Int.reduceLE, Int.reduceNeg, Int.reducePow, Int.reduceToNat, and_true, true_and, and_self, ite_true, ite_false, if_true, if_false, Bool.not_true, Bool.not_false, Bool.true_and, Bool.false_and, Bool.and_true, Bool.and_false, Bool.true_or, Bool.false_or, oSub, oNeg, oLt, oLe, oGt, oGe, oIs, oIsNot, Vs.isNon, oTru, oBl, oIx, oLen, oAbs, oIntC, oMax2, oMin2, oTupC, oLstC, oSl, keyD, decide_true, decide_false, plainE, fzE, gIx, List.filterMap_cons, List.filterMap_nil, wipeE, restE, List.all_cons, List.all_nil, List.getD_eq_getElem?_getD, Option.getD_some]
        exact fin _
/-- what every law's drawing does -/
def Draws (F : Fs) : Prop := ∀ (K : FR → Prop) (n : Nat) (W : List D) (m : Int), Wl n W → n < 2 ^ 22 → 0 < m → m < 1073741824 → (∀ W' x, Wl (n + 1) W' → 0 ≤ x → x < m → K (.ok (.int x) (some W'))) → Go K (F (some W) [.int m])
theorem drawsA {c1 c2 m1 c3 m2 m3 : Int} (q : smallC c1 ∧ smallC c2 ∧ smallC c3 ∧ smallM m1 ∧ smallM m2 ∧ smallM m3) : Draws (runF 6 (drawA c1 c2 m1 c3 m2 m3)) :=
  fun K n W m h hn hm hm2 hK => draw_go q.1 q.2.1 q.2.2.1 q.2.2.2.1 q.2.2.2.2.1 q.2.2.2.2.2 h hn hm hm2 hK
theorem atI_of {xs : List D} {x : Int} (h1 : 0 ≤ x) (h2 : x < xs.length) : ∃ d ∈ xs, atI xs x = some d := by
  have hl : x.toNat < xs.length := by omega
  refine ⟨xs[x.toNat], List.getElem_mem _, ?_⟩
  unfold atI ixN
  rw [if_pos h1, if_pos h2]
  simp only [Option.bind_some, List.getElem?_eq_getElem hl]
def pickA (F : Fs) : MS :=
  (sRet (eBin oIx (eV 1) (eCallIo 2 F 0 [] (eCons (eCal oLen (eCons (eV 1) eNil)) eNil))))
def Picks (F : Fs) : Prop := ∀ (K : FR → Prop) (n : Nat) (W : List D) (xs : List D) (z : D), z = .lst xs ∨ z = .tup xs → Wl n W → n < 2 ^ 22 → 0 < xs.length → xs.length < 1000000 → (∀ W' x, Wl (n + 1) W' → x ∈ xs → K (.ok x (some W'))) → Go K (F (some W) [z])
theorem picksA {F : Fs} (hF : Draws F) : Picks (runF 2 (pickA F)) := fun K n W xs z hz h hn h0 h1 hK => by
  rw [go_runF]
  show Go _ (pickA F [some (.ol (some 0) W), some (.fz z)])
  unfold pickA
  rcases hz with rfl | rfl
  · simp only [k_ok, k_exc, kS_ok, kS_exc, kq_next, kq_ret, kq_brk, kq_cont, kq_exc, kq_retF, go_ok, go_exc, go_next, go_ret, go_brk, go_cont, go_excS, go_retF, go_some, go_v, getV_fz, go_c, go_bin, go_bin1, go_bin2, go_un, go_un1, go_tru, go_tru1, go_bl, go_bl1, go_and, go_andT, go_andF, go_or, go_orT, go_orF, go_not, go_not1, go_andV, go_orV, go_andV1, go_orV1, go_andVT, go_andVF, go_orVT, go_orVF, go_notV, go_notV1, go_notV2, go_if, go_ifT, go_ifF, go_nil, go_cons, go_cons1, go_cons2, go_chk, go_lst, go_tup, go_lst1, go_tup1, go_cal, go_cal1, go_isi, go_isi1, go_seq, go_sRet, go_ret1, go_sExpr, go_ex1, go_sIf, go_sifT, go_sifF, go_optS, go_sAsg, go_asg1, go_sSet, go_set1, go_sPar, go_par1, go_sAug, go_augV, kN_eq, kNil_eq, kCons_eq, kT_eq, rdE_eq, rdO_fz, rdO_ol, ownE_eq, owO_ol, go_binL, go_binL1, go_binL2, oSw_eq, go_binR, go_binR1, go_sPut, go_put1, go_putO, go_put2, go_putP, go_putN, go_retF1, go_fLst, go_fl1, go_sOwn, go_own1, go_call, go_call1, kFR_ok, kFR_exc, go_callIo, go_io0, go_io1, go_io2, kIo_ok, kIo_exc, go_callN, go_calln1, go_calln2, go_okF, go_excF, kRun_next, kRun_ret, kRun_exc, finF_none, finF_some, finS_ol, go_finO, go_finX, go_items, go_items_lst, go_items_tup, go_rng1, go_rng1_ok, go_rng2, go_rng2_ok, go_zip, go_zip_l, go_zip_t, go_enum, go_enum_l, go_sFor, go_for1, kLoop_next, kLoop_cont, kLoop_brk, kLoop_ret, kLoop_exc, turn_next, turn_cont, go_lc, go_lc1, kLc_ok, elem_ok, go_yes, go_sl, go_sl1, go_sl2, go_sl3, go_noP, go_p, go_p1, go_rev, go_rev1, go_chain, go_ch1, go_ch2, go_ch3T, go_ch3F, go_ch4, go_dic, go_dic1, go_prs_nil, go_prs, go_prs1, go_prs2, go_prs3, go_prs4, kW_ok, go_fcall, go_fcall1, kRunW_ok, go_okW, go_cf, go_cf1, oAdd_int, oAdd_bl, atI_0, atI_1, atI_2, atI_3, ixN_0, ixN_1, ixN_2, sz_lit, List.getElem?_cons_zero, List.getElem?_cons_succ, List.set_cons_zero, List.set_cons_succ, List.nil_append, List.cons_append, List.append_nil, List.length_cons, List.length_nil, Nat.reduceSub, Nat.reduceLeDiff, Nat.zero_add, Option.bind_some, Option.map_some, reduceCtorEq, Int.reduceLT, Int.reduceLE, Int.reduceNeg, Int.reducePow, Int.reduceToNat, and_true, true_and, and_self, ite_true, ite_false, if_true, if_false, Bool.not_true, Bool.not_false, Bool.true_and, Bool.false_and, Bool.and_true, Bool.and_false, Bool.true_or, Bool.false_or, oSub, oNeg, oLt, oLe, oGt, oGe, oIs, oIsNot, Vs.isNon, oTru, oBl, oIx, oLen, oAbs, oIntC, oMax2, oMin2, oTupC, oLstC, oSl, keyD, decide_true, decide_false, plainE, fzE, gIx, List.filterMap_cons, List.filterMap_nil, wipeE, restE, List.all_cons, List.all_nil, List.getD_eq_getElem?_getD, Option.getD_some]
    refine hF _ n W _ h hn (by omega) (by omega) fun W' x hw hx1 hx2 => ?_
    obtain ⟨d, hd, e⟩ := atI_of hx1 hx2
    simp only [k_ok, k_exc, kS_ok, kS_exc, kq_next, kq_ret, kq_brk, kq_cont, kq_exc, kq_retF, go_ok, go_exc, go_next, go_ret, go_brk, go_cont, go_excS, go_retF, go_some, go_v, getV_fz, go_c, go_bin, go_bin1, go_bin2, go_un, go_un1, go_tru, go_tru1, go_bl, go_bl1, go_and, go_andT, go_andF, go_or, go_orT, go_orF, go_not, go_not1, go_andV, go_orV, go_andV1, go_orV1, go_andVT, go_andVF, go_orVT, go_orVF, go_notV, go_notV1, go_notV2, go_if, go_ifT, go_ifF, go_nil, go_cons, go_cons1, go_cons2, go_chk, go_lst, go_tup, go_lst1, go_tup1, go_cal, go_cal1, go_isi, go_isi1, go_seq, go_sRet, go_ret1, go_sExpr, go_ex1, go_sIf, go_sifT, go_sifF, go_optS, go_sAsg, go_asg1, go_sSet, go_set1, go_sPar, go_par1, go_sAug, go_augV, kN_eq, kNil_eq, kCons_eq, kT_eq, rdE_eq, rdO_fz, rdO_ol, ownE_eq, owO_ol, go_binL, go_binL1, go_binL2, oSw_eq, go_binR, go_binR1, go_sPut, go_put1, go_putO, go_put2, go_putP, go_putN, go_retF1, go_fLst, go_fl1, go_sOwn, go_own1, go_call, go_call1, kFR_ok, kFR_exc, go_callIo, go_io0, go_io1, go_io2, kIo_ok, kIo_exc, go_callN, go_calln1, go_calln2, go_okF, go_excF, kRun_next, kRun_ret, kRun_exc, finF_none, finF_some, finS_ol, go_finO, go_finX, go_items, go_items_lst, go_items_tup, go_rng1, go_rng1_ok, go_rng2, go_rng2_ok, go_zip, go_zip_l, go_zip_t, go_enum, go_enum_l, go_sFor, go_for1, kLoop_next, kLoop_cont, kLoop_brk, kLoop_ret, kLoop_exc, turn_next, turn_cont, go_lc, go_lc1, kLc_ok, elem_ok, go_yes, go_sl, go_sl1, go_sl2, go_sl3, go_noP, go_p, go_p1, go_rev, go_rev1, go_chain, go_ch1, go_ch2, go_ch3T, go_ch3F, go_ch4, go_dic, go_dic1, go_prs_nil, go_prs, go_prs1, go_prs2, go_prs3, go_prs4, kW_ok, go_fcall, go_fcall1, kRunW_ok, go_okW, go_cf, go_cf1, oAdd_int, oAdd_bl, atI_0, atI_1, atI_2, atI_3, ixN_0, ixN_1, ixN_2, sz_lit, List.getElem?_cons_zero, List.getElem?_cons_succ, List.set_cons_zero, List.set_cons_succ, List.nil_append, List.cons_append, List.append_nil, List.length_cons, List.length_nil, Nat.reduceSub, Nat.reduceLeDiff, Nat.zero_add, Option.bind_some, Option.map_some, reduceCtorEq, Int.reduceLT, Int.reduceLE, Int.reduceNeg, Int.reducePow, Int.reduceToNat, and_true, true_and, and_self, ite_true, ite_false, if_true, if_false, Bool.not_true, Bool.not_false, Bool.true_and, Bool.false_and, Bool.and_true, Bool.and_false, Bool.true_or, Bool.false_or, oSub, oNeg, oLt, oLe, oGt, oGe, oIs, oIsNot, Vs.isNon, oTru, oBl, oIx, oLen, oAbs, oIntC, oMax2, oMin2, oTupC, oLstC, oSl, keyD, decide_true, decide_false, plainE, fzE, gIx, List.filterMap_cons, List.filterMap_nil, wipeE, restE, List.all_cons, List.all_nil, List.getD_eq_getElem?_getD, Option.getD_some, e]
    exact hK _ _ hw hd
  · simp only [k_ok, k_exc, kS_ok, kS_exc, kq_next, kq_ret, kq_brk, kq_cont, kq_exc, kq_retF, go_ok, go_exc, go_next, go_ret, go_brk, go_cont, go_excS, go_retF, go_some, go_v, getV_fz, go_c, go_bin, go_bin1, go_bin2, go_un, go_un1, go_tru, go_tru1, go_bl, go_bl1, go_and, go_andT, go_andF, go_or, go_orT, go_orF, go_not, go_not1, go_andV, go_orV, go_andV1, go_orV1, go_andVT, go_andVF, go_orVT, go_orVF, go_notV, go_notV1, go_notV2, go_if, go_ifT, go_ifF, go_nil, go_cons, go_cons1, go_cons2, go_chk, go_lst, go_tup, go_lst1, go_tup1, go_cal, go_cal1, go_isi, go_isi1, go_seq, go_sRet, go_ret1, go_sExpr, go_ex1, go_sIf, go_sifT, go_sifF, go_optS, go_sAsg, go_asg1, go_sSet, go_set1, go_sPar, go_par1, go_sAug, go_augV, kN_eq, kNil_eq, kCons_eq, kT_eq, rdE_eq, rdO_fz, rdO_ol, ownE_eq, owO_ol, go_binL, go_binL1, go_binL2, oSw_eq, go_binR, go_binR1, go_sPut, go_put1, go_putO, go_put2, go_putP, go_putN, go_retF1, go_fLst, go_fl1, go_sOwn, go_own1, go_call, go_call1, kFR_ok, kFR_exc, go_callIo, go_io0, go_io1, go_io2, kIo_ok, kIo_exc, go_callN, go_calln1, go_calln2, go_okF, go_excF, kRun_next, kRun_ret, kRun_exc, finF_none, finF_some, finS_ol, go_finO, go_finX, go_items, go_items_lst, go_items_tup, go_rng1, go_rng1_ok, go_rng2, go_rng2_ok, go_zip, go_zip_l, go_zip_t, go_enum, go_enum_l, go_sFor, go_for1, kLoop_next, kLoop_cont, kLoop_brk, kLoop_ret, kLoop_exc, turn_next, turn_cont, go_lc, go_lc1, kLc_ok, elem_ok, go_yes, go_sl, go_sl1, go_sl2, go_sl3, go_noP, go_p, go_p1, go_rev, go_rev1, go_chain, go_ch1, go_ch2, go_ch3T, go_ch3F, go_ch4, go_dic, go_dic1, go_prs_nil, go_prs, go_prs1, go_prs2, go_prs3, go_prs4, kW_ok, go_fcall, go_fcall1, kRunW_ok, go_okW, go_cf, go_cf1, oAdd_int, oAdd_bl, atI_0, atI_1, atI_2, atI_3, ixN_0, ixN_1, ixN_2, sz_lit, List.getElem?_cons_zero, List.getElem?_cons_succ, List.set_cons_zero, List.set_cons_succ, List.nil_append, List.cons_append, List.append_nil, List.length_cons, List.length_nil, Nat.reduceSub, Nat.reduceLeDiff, Nat.zero_add, Option.bind_some, Option.map_some, reduceCtorEq, Int.reduceLT, Int.reduceLE, Int.reduceNeg, Int.reducePow, Int.reduceToNat, and_true, true_and, and_self, ite_true, ite_false, if_true, if_false, Bool.not_true, Bool.not_false, Bool.true_and, Bool.false_and, Bool.and_true, Bool.and_false, Bool.true_or, Bool.false_or, oSub, oNeg, oLt, oLe, oGt, oGe, oIs, oIsNot, Vs.isNon, oTru, oBl, oIx, oLen, oAbs, oIntC, oMax2, oMin2, oTupC, oLstC, oSl, keyD, decide_true, decide_false, plainE, fzE, gIx, List.filterMap_cons, List.filterMap_nil, wipeE, restE, List.all_cons, List.all_nil, List.getD_eq_getElem?_getD, Option.getD_some]
    refine hF _ n W _ h hn (by omega) (by omega) fun W' x hw hx1 hx2 => ?_
    obtain ⟨d, hd, e⟩ := atI_of hx1 hx2
    simp only [k_ok, k_exc, kS_ok, kS_exc, kq_next, kq_ret, kq_brk, kq_cont, kq_exc, kq_retF, go_ok, go_exc, go_next, go_ret, go_brk, go_cont, go_excS, go_retF, go_some, go_v, getV_fz, go_c, go_bin, go_bin1, go_bin2, go_un, go_un1, go_tru, go_tru1, go_bl, go_bl1, go_and, go_andT, go_andF, go_or, go_orT, go_orF, go_not, go_not1, go_andV, go_orV, go_andV1, go_orV1, go_andVT, go_andVF, go_orVT, go_orVF, go_notV, go_notV1, go_notV2, go_if, go_ifT, go_ifF, go_nil, go_cons, go_cons1, go_cons2, go_chk, go_lst, go_tup, go_lst1, go_tup1, go_cal, go_cal1, go_isi, go_isi1, go_seq, go_sRet, go_ret1, go_sExpr, go_ex1, go_sIf, go_sifT, go_sifF, go_optS, go_sAsg, go_asg1, go_sSet, go_set1, go_sPar, go_par1, go_sAug, go_augV, kN_eq, kNil_eq, kCons_eq, kT_eq, rdE_eq, rdO_fz, rdO_ol, ownE_eq, owO_ol, go_binL, go_binL1, go_binL2, oSw_eq, go_binR, go_binR1, go_sPut, go_put1, go_putO, go_put2, go_putP, go_putN, go_retF1, go_fLst, go_fl1, go_sOwn, go_own1, go_call, go_call1, kFR_ok, kFR_exc, go_callIo, go_io0, go_io1, go_io2, kIo_ok, kIo_exc, go_callN, go_calln1, go_calln2, go_okF, go_excF, kRun_next, kRun_ret, kRun_exc, finF_none, finF_some, finS_ol, go_finO, go_finX, go_items, go_items_lst, go_items_tup, go_rng1, go_rng1_ok, go_rng2, go_rng2_ok, go_zip, go_zip_l, go_zip_t, go_enum, go_enum_l, go_sFor, go_for1, kLoop_next, kLoop_cont, kLoop_brk, kLoop_ret, kLoop_exc, turn_next, turn_cont, go_lc, go_lc1, kLc_ok, elem_ok, go_yes, go_sl, go_sl1, go_sl2, go_sl3, go_noP, go_p, go_p1, go_rev, go_rev1, go_chain, go_ch1, go_ch2, go_ch3T, go_ch3F, go_ch4, go_dic, go_dic1, go_prs_nil, go_prs, go_prs1, go_prs2, go_prs3, go_prs4, kW_ok, go_fcall, go_fcall1, kRunW_ok, go_okW, go_cf, go_cf1, oAdd_int, oAdd_bl, atI_0, atI_1, atI_2, atI_3, ixN_0, ixN_1, ixN_2, sz_lit, List.getElem?_cons_zero, List.getElem?_cons_succ, List.set_cons_zero, List.set_cons_succ, List.nil_append, List.cons_append, List.append_nil, List.length_cons, List.length_nil, Nat.reduceSub, Nat.reduceLeDiff, Nat.zero_add, Option.bind_some, Option.map_some, reduceCtorEq, Int.reduceLT, Int.reduceLE, Int.reduceNeg, Int.reducePow, Int.reduceToNat, and_true, true_and, and_self, ite_true, ite_false, if_true, if_false, Bool.not_true, Bool.not_false, Bool.true_and, Bool.false_and, Bool.and_true, Bool.and_false, Bool.true_or, Bool.false_or, oSub, oNeg, oLt, oLe, oGt, oGe, oIs, oIsNot, Vs.isNon, oTru, oBl, oIx, oLen, oAbs, oIntC, oMax2, oMin2, oTupC, oLstC, oSl, keyD, decide_true, decide_false, plainE, fzE, gIx, List.filterMap_cons, List.filterMap_nil, wipeE, restE, List.all_cons, List.all_nil, List.getD_eq_getElem?_getD, Option.getD_some, e]
    exact hK _ _ hw hd
def wellA : MS :=
  (sRetF (fLst (eCons (eLc [1] (eItems (eSl (eV 0) eNoP (eP (eC (.int 63))))) (kN 1) eYes (eCal oIntC (eCons (eV 1) eNil))) (eCons (eC (.int 0)) (eCons (eC (.int 0)) eNil)))))
theorem cutD_len {α : Type} (xs : List α) (lo hi : Option Int) : (cutD xs lo hi).length ≤ xs.length := by
  unfold cutD
  rw [List.length_take, List.length_drop]; omega
theorem loopC_map {v : Nat} {el : M D} (f : D → D) (e0 : Vs.Env) (ds : List D) (hv : e0.set v none = e0)
    (h : ∀ d ∈ ds, el (e0.set v (some (.fz d))) = .ok (f d) (e0.set v (some (.fz d)))) : loopC [v] (kN v) eYes el ds e0 = .ok (ds.map f) e0 := by
  have := loopC_pure (vs := [v]) (k := kN v) (t := eYes) (el := el) (fun _ => true) f (fun d => e0.set v (some (.fz d))) e0 ds (fun d hd => ⟨rfl, by
    show (e0.set v (some (.fz d))).set v none = e0
    rw [List.set_set]; exact hv, rfl, fun _ => h d hd⟩)
  rw [List.filter_eq_self.mpr (fun _ _ => rfl)] at this
  exact this
theorem loopC_filter {v : Nat} {t : M Bool} (p : D → Bool) (e0 : Vs.Env) (ds : List D) (hv : e0.set v none = e0) (hl : v < e0.length)
    (h : ∀ d ∈ ds, t (e0.set v (some (.fz d))) = .ok (p d) (e0.set v (some (.fz d)))) : loopC [v] (kN v) t (eV v) ds e0 = .ok (ds.filter p) e0 := by
  have := loopC_pure (vs := [v]) (k := kN v) (t := t) (el := eV v) p id (fun d => e0.set v (some (.fz d))) e0 ds (fun d hd => ⟨rfl, by
    show (e0.set v (some (.fz d))).set v none = e0
    rw [List.set_set]; exact hv, h d hd, fun _ => by
      unfold eV
      rw [List.getElem?_set_self (by simpa using hl)]; rfl⟩)
  simpa using this
theorem well_go {K : WR → Prop} {ns : List Int} (hl : ns.length ≤ sizeLine) (hK : ∀ W, Wl 0 W → K (.ok W)) : Go K (runW 2 wellA [.scr ns]) := by
  rw [go_runW]
  show Go _ (wellA [some (.fz (.scr ns)), none])
  unfold wellA
  have hc := cutD_len ns none (some 63)
  have hp : plainE [some (T.fz (D.scr ns)), none] [1] = true := rfl
  simp only [k_ok, k_exc, kS_ok, kS_exc, kq_next, kq_ret, kq_brk, kq_cont, kq_exc, kq_retF, go_ok, go_exc, go_next, go_ret, go_brk, go_cont, go_excS, go_retF, go_some, go_v, getV_fz, go_c, go_bin, go_bin1, go_bin2, go_un, go_un1, go_tru, go_tru1, go_bl, go_bl1, go_and, go_andT, go_andF, go_or, go_orT, go_orF, go_not, go_not1, go_andV, go_orV, go_andV1, go_orV1, go_andVT, go_andVF, go_orVT, go_orVF, go_notV, go_notV1, go_notV2, go_if, go_ifT, go_ifF, go_nil, go_cons, go_cons1, go_cons2, go_chk, go_lst, go_tup, go_lst1, go_tup1, go_cal, go_cal1, go_isi, go_isi1, go_seq, go_sRet, go_ret1, go_sExpr, go_ex1, go_sIf, go_sifT, go_sifF, go_optS, go_sAsg, go_asg1, go_sSet, go_set1, go_sPar, go_par1, go_sAug, go_augV, kN_eq, kNil_eq, kCons_eq, kT_eq, rdE_eq, rdO_fz, rdO_ol, ownE_eq, owO_ol, go_binL, go_binL1, go_binL2, oSw_eq, go_binR, go_binR1, go_sPut, go_put1, go_putO, go_put2, go_putP, go_putN, go_retF1, go_fLst, go_fl1, go_sOwn, go_own1, go_call, go_call1, kFR_ok, kFR_exc, go_callIo, go_io0, go_io1, go_io2, kIo_ok, kIo_exc, go_callN, go_calln1, go_calln2, go_okF, go_excF, kRun_next, kRun_ret, kRun_exc, finF_none, finF_some, finS_ol, go_finO, go_finX, go_items, go_items_lst, go_items_tup, go_rng1, go_rng1_ok, go_rng2, go_rng2_ok, go_zip, go_zip_l, go_zip_t, go_enum, go_enum_l, go_sFor, go_for1, kLoop_next, kLoop_cont, kLoop_brk, kLoop_ret, kLoop_exc, turn_next, turn_cont, go_lc, go_lc1, kLc_ok, elem_ok, go_yes, go_sl, go_sl1, go_sl2, go_sl3, go_noP, go_p, go_p1, go_rev, go_rev1, go_chain, go_ch1, go_ch2, go_ch3T, go_ch3F, go_ch4, go_dic, go_dic1, go_prs_nil, go_prs, go_prs1, go_prs2, go_prs3, go_prs4, kW_ok, go_fcall, go_fcall1, kRunW_ok, go_okW, go_cf, go_cf1, oAdd_int, oAdd_bl, atI_0, atI_1, atI_2, atI_3, ixN_0, ixN_1, ixN_2, sz_lit, List.getElem?_cons_zero, List.getElem?_cons_succ, List.set_cons_zero, List.set_cons_succ, List.nil_append, List.cons_append, List.append_nil, List.length_cons, List.length_nil, Nat.reduceSub, Nat.reduceLeDiff, Nat.zero_add, Option.bind_some, Option.map_some, reduceCtorEq, Int.reduceLT, Int.reduceLE, Int.reduceNeg, Int.reducePow, Int.reduceToNat, and_true, true_and, and_self, ite_true, ite_false, if_true, if_false, Bool.not_true, Bool.not_false, Bool.true_and, Bool.false_and, Bool.and_true, Bool.and_false, Bool.true_or, Bool.false_or, oSub, oNeg, oLt, oLe, oGt, oGe, oIs, oIsNot, Vs.isNon, oTru, oBl, oIx, oLen, oAbs, oIntC, oMax2, oMin2, oTupC, oLstC, oSl, keyD, decide_true, decide_false, plainE, fzE, gIx, List.filterMap_cons, List.filterMap_nil, wipeE, restE, List.all_cons, List.all_nil, List.getD_eq_getElem?_getD, Option.getD_some, hp]
  show Go _ (loopC [1] (kN 1) eYes (eCal oIntC (eCons (eV 1) eNil)) (List.map D.int (cutD ns none (some 63))) [some (.fz (.scr ns)), none])
  rw [go_of (loopC_map id [some (.fz (.scr ns)), none] _ rfl fun d hd => by
    obtain ⟨n, _, rfl⟩ := List.mem_map.mp hd
    rfl)]
  rw [kLc_ok (by simp only [List.length_map]; omega)]
  simp only [k_ok, k_exc, kS_ok, kS_exc, kq_next, kq_ret, kq_brk, kq_cont, kq_exc, kq_retF, go_ok, go_exc, go_next, go_ret, go_brk, go_cont, go_excS, go_retF, go_some, go_v, getV_fz, go_c, go_bin, go_bin1, go_bin2, go_un, go_un1, go_tru, go_tru1, go_bl, go_bl1, go_and, go_andT, go_andF, go_or, go_orT, go_orF, go_not, go_not1, go_andV, go_orV, go_andV1, go_orV1, go_andVT, go_andVF, go_orVT, go_orVF, go_notV, go_notV1, go_notV2, go_if, go_ifT, go_ifF, go_nil, go_cons, go_cons1, go_cons2, go_chk, go_lst, go_tup, go_lst1, go_tup1, go_cal, go_cal1, go_isi, go_isi1, go_seq, go_sRet, go_ret1, go_sExpr, go_ex1, go_sIf, go_sifT, go_sifF, go_optS, go_sAsg, go_asg1, go_sSet, go_set1, go_sPar, go_par1, go_sAug, go_augV, kN_eq, kNil_eq, kCons_eq, kT_eq, rdE_eq, rdO_fz, rdO_ol, ownE_eq, owO_ol, go_binL, go_binL1, go_binL2, oSw_eq, go_binR, go_binR1, go_sPut, go_put1, go_putO, go_put2, go_putP, go_putN, go_retF1, go_fLst, go_fl1, go_sOwn, go_own1, go_call, go_call1, kFR_ok, kFR_exc, go_callIo, go_io0, go_io1, go_io2, kIo_ok, kIo_exc, go_callN, go_calln1, go_calln2, go_okF, go_excF, kRun_next, kRun_ret, kRun_exc, finF_none, finF_some, finS_ol, go_finO, go_finX, go_items, go_items_lst, go_items_tup, go_rng1, go_rng1_ok, go_rng2, go_rng2_ok, go_zip, go_zip_l, go_zip_t, go_enum, go_enum_l, go_sFor, go_for1, kLoop_next, kLoop_cont, kLoop_brk, kLoop_ret, kLoop_exc, turn_next, turn_cont, go_lc, go_lc1, kLc_ok, elem_ok, go_yes, go_sl, go_sl1, go_sl2, go_sl3, go_noP, go_p, go_p1, go_rev, go_rev1, go_chain, go_ch1, go_ch2, go_ch3T, go_ch3F, go_ch4, go_dic, go_dic1, go_prs_nil, go_prs, go_prs1, go_prs2, go_prs3, go_prs4, kW_ok, go_fcall, go_fcall1, kRunW_ok, go_okW, go_cf, go_cf1, oAdd_int, oAdd_bl, atI_0, atI_1, atI_2, atI_3, ixN_0, ixN_1, ixN_2, sz_lit, List.getElem?_cons_zero, List.getElem?_cons_succ, List.set_cons_zero, List.set_cons_succ, List.nil_append, List.cons_append, List.append_nil, List.length_cons, List.length_nil, Nat.reduceSub, Nat.reduceLeDiff, Nat.zero_add, Option.bind_some, Option.map_some, reduceCtorEq, Int.reduceLT, Int.reduceLE, Int.reduceNeg, Int.reducePow, Int.reduceToNat, and_true, true_and, and_self, ite_true, ite_false, if_true, if_false, Bool.not_true, Bool.not_false, Bool.true_and, Bool.false_and, Bool.and_true, Bool.and_false, Bool.true_or, Bool.false_or, oSub, oNeg, oLt, oLe, oGt, oGe, oIs, oIsNot, Vs.isNon, oTru, oBl, oIx, oLen, oAbs, oIntC, oMax2, oMin2, oTupC, oLstC, oSl, keyD, decide_true, decide_false, plainE, fzE, gIx, List.filterMap_cons, List.filterMap_nil, wipeE, restE, List.all_cons, List.all_nil, List.getD_eq_getElem?_getD, Option.getD_some, List.map_id]
  exact hK _ ⟨_, 0, 0, rfl, by omega, by omega⟩
theorem oRepr_bl (b : Bool) : oRepr [.bl b] = some (.str (PyData.bool b).shown) := by
  cases b <;> rfl
theorem oEq_str (x y : Str) : oEq (.str x) (.str y) = some (.bl (decide (x = y))) := rfl
theorem oNe_str (x y : Str) : oNe (.str x) (.str y) = some (.bl (!decide (x = y))) := rfl
theorem oEq_int (x y : Int) : oEq (.int x) (.int y) = some (.bl (decide (x = y))) := rfl
theorem oNe_int (x y : Int) : oNe (.int x) (.int y) = some (.bl (!decide (x = y))) := rfl
theorem oEq_bl (x y : Bool) : oEq (.bl x) (.bl y) = some (.bl (decide (x = y))) := rfl
theorem oNe_bl (x y : Bool) : oNe (.bl x) (.bl y) = some (.bl (!decide (x = y))) := rfl
theorem oEq_nil (xs : List D) : oEq (.lst xs) (.lst []) = some (.bl xs.isEmpty) := by
  cases xs with
  | nil => rfl
  | cons x xs => rfl
theorem oNe_nil (xs : List D) : oNe (.lst xs) (.lst []) = some (.bl (!xs.isEmpty)) := by
  cases xs with
  | nil => rfl
  | cons x xs => rfl
def isI : D → Bool
  | .int _ => true
  | _ => false
def isL : D → Bool
  | .lst _ => true
  | .tup _ => true
  | .scr _ => true
  | _ => false
def isIB : D → Bool
  | .int _ => true
  | .bl _ => true
  | _ => false
def isB : D → Bool
  | .bl _ => true
  | _ => false
theorem oIsi_int (d : D) : oIsi ["int"] d = some (.bl (isIB d)) := by cases d <;> rfl
theorem oIsi_bool (d : D) : oIsi ["bool"] d = some (.bl (isB d)) := by cases d <;> rfl
theorem oIsi_listed (d : D) : oIsi ["list", "tuple"] d = some (.bl (isL d)) := by cases d <;> rfl
theorem str_beq (x : Str) : decide (x = x) = true := by simp
theorem blsOf_map (p : D → Bool) : ∀ xs : List D, blsOf (xs.map fun d => .bl (p d)) = some (xs.map p)
  | [] => rfl
  | x :: xs => by
    show (blsOf (xs.map fun d => .bl (p d))).map (p x :: ·) = _
    rw [blsOf_map p xs]; rfl
theorem oAll_map (p : D → Bool) (xs : List D) : oAll [.lst (xs.map fun d => .bl (p d))] = some (.bl (xs.all p)) := by
  show (blsOf _).map _ = _
  rw [blsOf_map]
  simp [List.all_map]
theorem oAny_map (p : D → Bool) (xs : List D) : oAny [.lst (xs.map fun d => .bl (p d))] = some (.bl (xs.any p)) := by
  show (blsOf _).map _ = _
  rw [blsOf_map]
  simp [List.any_map]
theorem go_mapC {K : R (List D) → Prop} {v : Nat} {el : M D} {e0 : Vs.Env} {ds : List D} (f : D → D) (hv : e0.set v none = e0)
    (h : ∀ d ∈ ds, Go (fun r => r = R.ok (f d) (e0.set v (some (.fz d)))) (el (e0.set v (some (.fz d))))) (hK : K (.ok (ds.map f) e0)) : Go K (loopC [v] (kN v) eYes el ds e0) := by
  rw [go_of (loopC_map f e0 ds hv fun d hd => of_go (h d hd))]
  exact hK
theorem go_filterC {K : R (List D) → Prop} {v : Nat} {t : M Bool} {e0 : Vs.Env} {ds : List D} (p : D → Bool) (hv : e0.set v none = e0) (hl : v < e0.length)
    (h : ∀ d ∈ ds, Go (fun r => r = R.ok (p d) (e0.set v (some (.fz d)))) (t (e0.set v (some (.fz d))))) (hK : K (.ok (ds.filter p) e0)) : Go K (loopC [v] (kN v) t (eV v) ds e0) := by
  rw [go_of (loopC_filter p e0 ds hv hl fun d hd => of_go (h d hd))]
  exact hK
theorem filter_len {p : D → Bool} {xs : List D} (h : xs.length ≤ 1000) : (xs.filter p).length ≤ sizeLine := Nat.le_trans (List.length_filter_le p xs) (Nat.le_trans h (by decide))
theorem isEmpty_filter_not (p : D → Bool) : ∀ xs : List D, (xs.filter fun d => !p d).isEmpty = xs.all p
  | [] => rfl
  | x :: xs => by
    cases h : p x with
    | true => simpa [List.filter_cons, h] using isEmpty_filter_not p xs
    | false => simp [List.filter_cons, h]
def pairF (f : D → D → D) : D → D
  | .tup [a, b] => f a b
  | d => d
theorem go_pairC {K : R (List D) → Prop} {v1 v2 : Nat} {el : M D} {e0 : Vs.Env} {ds : List D} (f : D → D → D) (hv : ∀ a b, wipeE ((e0.set v1 (some (.fz a))).set v2 (some (.fz b))) [v1, v2] = e0)
    (h : ∀ d ∈ ds, ∃ a b, d = .tup [a, b] ∧ Go (fun r => r = R.ok (f a b) ((e0.set v1 (some (.fz a))).set v2 (some (.fz b)))) (el ((e0.set v1 (some (.fz a))).set v2 (some (.fz b))))) (hK : K (.ok (ds.map (pairF f)) e0)) :
    Go K (loopC [v1, v2] (kT 2 (kCons (kN v1) (kCons (kN v2) kNil))) eYes el ds e0) := by
  have := loopC_pure (vs := [v1, v2]) (k := kT 2 (kCons (kN v1) (kCons (kN v2) kNil))) (t := eYes) (el := el) (fun _ => true) (pairF f)
    (fun d => match d with
      | .tup [a, b] => (e0.set v1 (some (.fz a))).set v2 (some (.fz b))
      | _ => e0) e0 ds (fun d hd => by
      obtain ⟨a, b, rfl, h1⟩ := h d hd
      exact ⟨rfl, hv a b, rfl, fun _ => h1⟩)
  rw [List.filter_eq_self.mpr (fun _ _ => rfl)] at this
  rw [go_of this]
  exact hK
theorem cutD_tail {α : Type} (xs : List α) : cutD xs (some 1) none = xs.drop 1 := by
  cases xs with
  | nil => rfl
  | cons x xs =>
    unfold cutD
    have e1 : HT.sIx (x :: xs).length 0 (some 1) = 1 := by
      have := HT.sIx_nat (x :: xs).length 0 1
      rw [show ((1 : Nat) : Int) = 1 from rfl] at this
      rw [this, List.length_cons]; omega
    rw [e1, HT.sIx_none]
    simp
theorem atI_last {α : Type} {xs : List α} (h : xs ≠ []) : ∃ d, atI xs (-1) = some d := by
  have hl := List.length_pos_iff.mpr h
  unfold atI ixN
  rw [if_neg (by omega), if_pos (by omega)]
  simp only [Option.bind_some]
  rw [List.getElem?_eq_getElem (by omega)]
  exact ⟨_, rfl⟩
theorem mem_rng {lo : Int} {n : Nat} {d : D} (h : d ∈ rngD lo n) : ∃ i : Nat, i < n ∧ d = .int (lo + i) := by
  unfold rngD at h
  obtain ⟨i, h1, rfl⟩ := List.mem_map.mp h
  exact ⟨i, List.mem_range.mp h1, rfl⟩
theorem rng_len (lo : Int) (n : Nat) : (rngD lo n).length = n := by simp [rngD]
theorem atI_intsN {ns : List Int} {i : Nat} (h : i < ns.length) : atI (ns.map D.int) (i : Int) = some (.int (ns.getD i 0)) := by
  unfold atI ixN
  rw [if_pos (by omega), List.length_map, if_pos (by omega)]
  simp only [Option.bind_some, List.getElem?_map, Int.toNat_natCast]
  rw [List.getElem?_eq_getElem h]
  simp [List.getD_eq_getElem?_getD, List.getElem?_eq_getElem h]
/-- ascending -/
def ascI : List Int → Bool
  | a :: b :: r => decide (a < b) && ascI (b :: r)
  | _ => true
theorem ascI_iff : ∀ ns : List Int, ascI ns = true ↔ ∀ i, i + 1 < ns.length → ns.getD i 0 < ns.getD (i + 1) 0
  | [] => by simp [ascI]
  | [a] => by simp [ascI]
  | a :: b :: r => by
    unfold ascI
    rw [Bool.and_eq_true, decide_eq_true_eq, ascI_iff (b :: r)]
    constructor
    · rintro ⟨h1, h2⟩ i hi
      cases i with
      | zero => simpa using h1
      | succ i => simpa using h2 i (by simpa using hi)
    · intro h
      refine ⟨by simpa using h 0 (by simp), fun i hi => ?_⟩
      simpa using h (i + 1) (by simpa using hi)
end Vs

set_option Elab.async false
set_option linter.all false
set_option maxRecDepth 100000
set_option maxHeartbeats 4000000
namespace Lk01
open PySem PySem.Spec PyProof.Rows L2 Evl Vs
def top (i : Nat) : Stmt := PySem.Challenge.pw_roundsheld_k01_integers_rows_and_lots.main.body.getD i (.Pass ⟨0, 0, 0, 0⟩)
abbrev cm0 : Str → Option Addr := fun _ => none
abbrev s_is_integer : Stmt := top 1
abbrev N_is_integer : List Str := ["value"]
theorem sc_is_integer : FnScope N_is_integer ["value"] (defScope s_is_integer) := ⟨rfl, rfl, rfl, by decide +kernel, rfl, by decide +kernel, by decide +kernel⟩
def b_is_integer : MS :=
  (sRet (eAndV (eIsi ["int"] (eV 0)) (eNotV (eIsi ["bool"] (eV 0)))))
def F_is_integer : Fs := runF N_is_integer.length b_is_integer
abbrev s_is_within : Stmt := top 2
abbrev N_is_within : List Str := ["value", "least", "most"]
theorem sc_is_within : FnScope N_is_within ["value", "least", "most"] (defScope s_is_within) := ⟨rfl, rfl, rfl, by decide +kernel, rfl, by decide +kernel, by decide +kernel⟩
def b_is_within_1 : MS :=
  (sRet (eAndV (eOrV (eBin oIs (eV 1) (eC .non)) (eBin oGe (eV 0) (eV 1))) (eOrV (eBin oIs (eV 2) (eC .non)) (eBin oLe (eV 0) (eV 2)))))
def b_is_within : MS :=
  (sSeq (sIf (eNot (eTru (eCall 1 F_is_integer [] (eCons (eV 0) eNil)))) (sRet (eC (.bl false))) (fun env => .next env))
  b_is_within_1)
def F_is_within : Fs := runF N_is_within.length b_is_within
abbrev s_is_listed : Stmt := top 3
abbrev N_is_listed : List Str := ["value"]
theorem sc_is_listed : FnScope N_is_listed ["value"] (defScope s_is_listed) := ⟨rfl, rfl, rfl, by decide +kernel, rfl, by decide +kernel, by decide +kernel⟩
def b_is_listed : MS :=
  (sRet (eIsi ["list", "tuple"] (eV 0)))
def F_is_listed : Fs := runF N_is_listed.length b_is_listed
abbrev s_is_row : Stmt := top 4
abbrev N_is_row : List Str := ["value", "many", "least", "most", "each"]
theorem sc_is_row : FnScope N_is_row ["value", "many", "least", "most"] (defScope s_is_row) := ⟨rfl, rfl, rfl, by decide +kernel, rfl, by decide +kernel, by decide +kernel⟩
def b_is_row : MS :=
  (sRet (eAndV (eCall 1 F_is_listed [] (eCons (eV 0) eNil)) (eAndV (eBin oEq (eCal oLen (eCons (eV 0) eNil)) (eV 1)) (eCal oAll (eCons (eLc [4] (eItems (eV 0)) (kN 4) eYes (eCall 3 F_is_within [] (eCons (eV 4) (eCons (eV 2) (eCons (eV 3) eNil))))) eNil)))))
def F_is_row : Fs := runF N_is_row.length b_is_row
abbrev s_is_lot : Stmt := top 5
abbrev N_is_lot : List Str := ["value", "many", "one", "other", "each"]
theorem sc_is_lot : FnScope N_is_lot ["value", "many"] (defScope s_is_lot) := ⟨rfl, rfl, rfl, by decide +kernel, rfl, by decide +kernel, by decide +kernel⟩
def b_is_lot_1 : MS :=
  (sRet (eCal oAll (eCons (eLc [2, 3] (eZip (eCons (eV 0) (eCons (eSl (eV 0) (eP (eC (.int 1))) eNoP) eNil))) (kT 2 (kCons (kN 2) (kCons (kN 3) kNil))) eYes (eBin oLt (eV 2) (eV 3))) eNil)))
def b_is_lot : MS :=
  (sSeq (sIf (eOr (eNot (eTru (eCall 1 F_is_listed [] (eCons (eV 0) eNil)))) (eNot (eTru (eCal oAll (eCons (eLc [4] (eItems (eV 0)) (kN 4) eYes (eCall 3 F_is_within [] (eCons (eV 4) (eCons (eC (.int 0)) (eCons (eBin oSub (eV 1) (eC (.int 1))) eNil))))) eNil))))) (sRet (eC (.bl false))) (fun env => .next env))
  b_is_lot_1)
def F_is_lot : Fs := runF N_is_lot.length b_is_lot
abbrev s__law_well : Stmt := top 7
abbrev N__law_well : List Str := ["script", "cell"]
theorem sc__law_well : FnScope N__law_well ["script"] (defScope s__law_well) := ⟨rfl, rfl, rfl, by decide +kernel, rfl, by decide +kernel, by decide +kernel⟩
def b__law_well : MS :=
  (sRetF (fLst (eCons (eLc [1] (eItems (eSl (eV 0) eNoP (eP (eC (.int 63))))) (kN 1) eYes (eCal oIntC (eCons (eV 1) eNil))) (eCons (eC (.int 0)) (eCons (eC (.int 0)) eNil)))))
def F__law_well : List D → WR := runW N__law_well.length b__law_well
abbrev s__law_draw : Stmt := top 8
abbrev N__law_draw : List Str := ["well", "many", "at", "cell", "mixed", "rest"]
theorem sc__law_draw : FnScope N__law_draw ["well", "many"] (defScope s__law_draw) := ⟨rfl, rfl, rfl, by decide +kernel, rfl, by decide +kernel, by decide +kernel⟩
def b__law_draw_8 : MS :=
  (sRet (eBin oMod (eCal oIntC (eCons (eBin oFdiv (eV 4) (eC (.int 64))) eNil)) (eV 1)))
def b__law_draw_7 : MS :=
  (sSeq (sSet 4 (eBin oMod (eCal oIntC (eCons (eBin oPow (eBin oAdd (eBin oAdd (eBin oMul (eV 4) (eBin oAdd (eBin oMul (eC (.int 2)) (eV 2)) (eC (.int 8117)))) (eBin oMul (eBin oMul (eC (.int 52021)) (eV 2)) (eV 2))) (eC (.int 61057))) (eC (.int 3))) eNil)) (eC (.int 2147483587))))
  b__law_draw_8)
def b__law_draw_6 : MS :=
  (sSeq (sSet 4 (eBin oMod (eCal oIntC (eCons (eBin oPow (eBin oAdd (eBin oAdd (eBin oMod (eCal oIntC (eCons (eV 3) eNil)) (eC (.int 2147483549))) (eBin oMul (eC (.int 61057)) (eV 2))) (eC (.int 8117))) (eC (.int 5))) eNil)) (eC (.int 2147483563))))
  b__law_draw_7)
def b__law_draw_5 : MS :=
  (sSeq (sIf (eAnd (eBl (eBin oLt (eV 2) (eCal oLen (eCons (eBinL 0 oIx (eC (.int 0))) eNil)))) (eBl (eBin oGe (eCal oAbs (eCons (eV 3) eNil)) (eBin oPow (eC (.int 10)) (eC (.int 18)))))) (sSeq (sSet 5 (eBin oAdd (eBin oMul (eC (.int 2)) (eBin oSub (eCal oAbs (eCons (eV 3) eNil)) (eBin oPow (eC (.int 10)) (eC (.int 18))))) (eCal oIntC (eCons (eBin oLt (eV 3) (eC (.int 0))) eNil))))
  (sSeq (sPut 0 (eC (.int 2)) (eBin oFdiv (eCal oIntC (eCons (eV 5) eNil)) (eV 1)))
  (sRet (eBin oMod (eCal oIntC (eCons (eV 5) eNil)) (eV 1))))) (fun env => .next env))
  b__law_draw_6)
def b__law_draw_4 : MS :=
  (sSeq (sIf (eBl (eBin oNe (eBinL 0 oIx (eC (.int 0))) (eLst eNil))) (sSet 3 (eBin oIx (eBinL 0 oIx (eC (.int 0))) (eBin oMod (eCal oIntC (eCons (eV 2) eNil)) (eCal oLen (eCons (eBinL 0 oIx (eC (.int 0))) eNil))))) (fun env => .next env))
  b__law_draw_5)
def b__law_draw_3 : MS :=
  (sSeq (sSet 3 (eBin oAdd (eBin oMul (eC (.int 52021)) (eV 2)) (eC (.int 8117))))
  b__law_draw_4)
def b__law_draw_2 : MS :=
  (sSeq (sPut 0 (eC (.int 1)) (eBin oAdd (eV 2) (eC (.int 1))))
  b__law_draw_3)
def b__law_draw_1 : MS :=
  (sSeq (sSet 2 (eBinL 0 oIx (eC (.int 1))))
  b__law_draw_2)
def b__law_draw : MS :=
  (sSeq (sIf (eBl (eBin oGt (eBinL 0 oIx (eC (.int 2))) (eC (.int 0)))) (sSeq (sSet 5 (eCal oIntC (eCons (eBinL 0 oIx (eC (.int 2))) eNil)))
  (sSeq (sPut 0 (eC (.int 2)) (eBin oFdiv (eV 5) (eV 1)))
  (sRet (eBin oMod (eCal oIntC (eCons (eV 5) eNil)) (eV 1))))) (fun env => .next env))
  b__law_draw_1)
def F__law_draw : Fs := runF N__law_draw.length b__law_draw
abbrev s__law_pick : Stmt := top 9
abbrev N__law_pick : List Str := ["well", "some"]
theorem sc__law_pick : FnScope N__law_pick ["well", "some"] (defScope s__law_pick) := ⟨rfl, rfl, rfl, by decide +kernel, rfl, by decide +kernel, by decide +kernel⟩
def b__law_pick : MS :=
  (sRet (eBin oIx (eV 1) (eCallIo 2 F__law_draw 0 [] (eCons (eCal oLen (eCons (eV 1) eNil)) eNil))))
def F__law_pick : Fs := runF N__law_pick.length b__law_pick
abbrev s__law_plain : Stmt := top 10
abbrev N__law_plain : List Str := ["value"]
theorem sc__law_plain : FnScope N__law_plain ["value"] (defScope s__law_plain) := ⟨rfl, rfl, rfl, by decide +kernel, rfl, by decide +kernel, by decide +kernel⟩
def b__law_plain : MS :=
  (sRet (eAndV (eIsi ["int"] (eV 0)) (eNotV (eIsi ["bool"] (eV 0)))))
def F__law_plain : Fs := runF N__law_plain.length b__law_plain
abbrev s__law_odd : Stmt := top 11
abbrev N__law_odd : List Str := ["well"]
theorem sc__law_odd : FnScope N__law_odd ["well"] (defScope s__law_odd) := ⟨rfl, rfl, rfl, by decide +kernel, rfl, by decide +kernel, by decide +kernel⟩
def b__law_odd : MS :=
  (sRet (eCallIo 2 F__law_pick 0 [] (eCons (eLst (eCons (eC .non) (eCons (eC (.bl true)) (eCons (eC (.bl false)) (eCons (eC (.str ("1" : Str))) (eCons (eC (.str ("" : Str))) (eCons (eTup (eCons (eC (.int 1)) eNil)) (eCons (eLst (eCons (eC (.int 1)) eNil)) (eCons (fun env => .ok (.dic []) env) (eCons (eDic [((eC (.str ("a" : Str))), (eC (.int 1)))]) (eCons (eTup eNil) (eCons (eLst eNil) (eCons (eC (.str ("0" : Str))) eNil))))))))))))) eNil)))
def F__law_odd : Fs := runF N__law_odd.length b__law_odd
abbrev s__law_item : Stmt := top 12
abbrev N__law_item : List Str := ["well", "low", "high"]
theorem sc__law_item : FnScope N__law_item ["well", "low", "high"] (defScope s__law_item) := ⟨rfl, rfl, rfl, by decide +kernel, rfl, by decide +kernel, by decide +kernel⟩
def b__law_item_1 : MS :=
  (sRet (eCallIo 2 F__law_pick 0 [] (eCons (eLst (eCons (eV 1) (eCons (eBin oSub (eV 1) (eC (.int 1))) (eCons (eBin oAdd (eV 1) (eC (.int 1))) (eCons (eV 2) (eCons (eBin oAdd (eV 2) (eC (.int 1))) (eCons (eBin oSub (eV 2) (eC (.int 1))) (eCons (eC (.int 0)) (eCons (eUn oNeg (eC (.int 1))) (eCons (eBin oPow (eC (.int 10)) (eC (.int 31))) eNil)))))))))) eNil)))
def b__law_item : MS :=
  (sSeq (sIf (eBl (eBin oEq (eCallIo 2 F__law_draw 0 [] (eCons (eC (.int 7)) eNil)) (eC (.int 0)))) (sRet (eCallIo 1 F__law_odd 0 [] eNil)) (fun env => .next env))
  b__law_item_1)
def F__law_item : Fs := runF N__law_item.length b__law_item
abbrev s__law_fits : Stmt := top 13
abbrev N__law_fits : List Str := ["value", "low", "high"]
theorem sc__law_fits : FnScope N__law_fits ["value", "low", "high"] (defScope s__law_fits) := ⟨rfl, rfl, rfl, by decide +kernel, rfl, by decide +kernel, by decide +kernel⟩
def b__law_fits : MS :=
  (sRet (eAndV (eCall 1 F__law_plain [] (eCons (eV 0) eNil)) (eAndV (eOrV (eBin oIs (eV 1) (eC .non)) (eBin oGe (eV 0) (eV 1))) (eOrV (eBin oIs (eV 2) (eC .non)) (eBin oLe (eV 0) (eV 2))))))
def F__law_fits : Fs := runF N__law_fits.length b__law_fits
abbrev s__law_within_right : Stmt := top 14
abbrev N__law_within_right : List Str := ["well", "low", "high", "turn", "value", "least", "most"]
theorem sc__law_within_right : FnScope N__law_within_right ["well"] (defScope s__law_within_right) := ⟨rfl, rfl, rfl, by decide +kernel, rfl, by decide +kernel, by decide +kernel⟩
def l2__law_within_right : MS :=
  (sIf (eOr (eBl (eBin oNe (eCal oRepr (eCons (eCall 3 F_is_within [] (eCons (eV 4) (eCons (eV 5) (eCons (eV 6) eNil)))) eNil)) (eCal oRepr (eCons (eCall 3 F__law_fits [] (eCons (eV 4) (eCons (eV 5) (eCons (eV 6) eNil)))) eNil)))) (eBl (eBin oNe (eCal oRepr (eCons (eCallN 3 0 3 F_is_within (fun ds es => gIx [.k 2, .k 1, .k 0] ds es []) eNil (eCons (eV 6) (eCons (eV 5) (eCons (eV 4) eNil)))) eNil)) (eCal oRepr (eCons (eCall 3 F__law_fits [] (eCons (eV 4) (eCons (eV 5) (eCons (eV 6) eNil)))) eNil))))) (sRet (eC (.bl false))) (fun env => .next env))
def l1__law_within_right_2 : MS :=
  (sIf (eBl (eBin oNe (eCal oRepr (eCons (eCall 1 F_is_integer [] (eCons (eV 4) eNil)) eNil)) (eCal oRepr (eCons (eCall 1 F__law_plain [] (eCons (eV 4) eNil)) eNil)))) (sRet (eC (.bl false))) (fun env => .next env))
def l1__law_within_right_1 : MS :=
  (sSeq (sFor (eItems (eTup (eCons (eTup (eCons (eV 1) (eCons (eV 2) eNil))) (eCons (eTup (eCons (eC .non) (eCons (eV 2) eNil))) (eCons (eTup (eCons (eV 1) (eCons (eC .non) eNil))) (eCons (eTup (eCons (eC .non) (eCons (eC .non) eNil))) eNil)))))) (kT 2 (kCons (kN 5) (kCons (kN 6) kNil))) l2__law_within_right)
  l1__law_within_right_2)
def l1__law_within_right : MS :=
  (sSeq (sSet 4 (eCallIo 3 F__law_item 0 [] (eCons (eV 1) (eCons (eV 2) eNil))))
  l1__law_within_right_1)
def b__law_within_right_3 : MS :=
  (sRet (eC (.bl true)))
def b__law_within_right_2 : MS :=
  (sSeq (sFor (eRng1 (eCons (eC (.int 6)) eNil)) (kN 3) l1__law_within_right)
  b__law_within_right_3)
def b__law_within_right_1 : MS :=
  (sSeq (sSet 2 (eBin oAdd (eV 1) (eCallIo 2 F__law_draw 0 [] (eCons (eC (.int 4)) eNil))))
  b__law_within_right_2)
def b__law_within_right : MS :=
  (sSeq (sSet 1 (eCallIo 2 F__law_pick 0 [] (eCons (eLst (eCons (eC (.int 0)) (eCons (eUn oNeg (eC (.int 3))) (eCons (eC (.int 7)) (eCons (eBin oPow (eC (.int 10)) (eC (.int 30))) eNil))))) eNil)))
  b__law_within_right_1)
def F__law_within_right : Fs := runF N__law_within_right.length b__law_within_right
abbrev s__law_row : Stmt := top 15
abbrev N__law_row : List Str := ["well", "many", "low", "high", "found", "at", "turn"]
theorem sc__law_row : FnScope N__law_row ["well", "many", "low", "high"] (defScope s__law_row) := ⟨rfl, rfl, rfl, by decide +kernel, rfl, by decide +kernel, by decide +kernel⟩
def b__law_row_3 : MS :=
  (sRet (eIf (eBl (eBin oEq (eCallIo 2 F__law_draw 0 [] (eCons (eC (.int 2)) eNil)) (eC (.int 0)))) (eCal oTupC (eCons (eV 4) eNil)) (eV 4)))
def b__law_row_2 : MS :=
  (sSeq (sIf (eBl (eBin oEq (eCallIo 2 F__law_draw 0 [] (eCons (eC (.int 8)) eNil)) (eC (.int 0)))) (sRet (eCallIo 2 F__law_pick 0 [] (eCons (eLst (eCons (eC .non) (eCons (eC (.str ("ab" : Str))) (eCons (eC (.int 3)) (eCons (fun env => .ok (.dic []) env) (eCons (eDic [((eC (.int 0)), (eC (.int 1)))]) (eCons (eC (.bl true)) (eCons (eC (.str ("12" : Str))) eNil)))))))) eNil))) (fun env => .next env))
  b__law_row_3)
def b__law_row_1 : MS :=
  (sSeq (sIf (eAnd (eBl (eBin oGt (eV 1) (eC (.int 0)))) (eBl (eBin oEq (eCallIo 2 F__law_draw 0 [] (eCons (eC (.int 3)) eNil)) (eC (.int 0))))) (sSeq (sSet 5 (eCallIo 2 F__law_draw 0 [] (eCons (eV 1) eNil)))
  (sSet 4 (eBin oAdd (eBin oAdd (eSl (eV 4) eNoP (eP (eV 5))) (eLst (eCons (eCallIo 3 F__law_item 0 [] (eCons (eV 2) (eCons (eV 3) eNil))) eNil))) (eSl (eV 4) (eP (eBin oAdd (eV 5) (eC (.int 1)))) eNoP)))) (fun env => .next env))
  b__law_row_2)
def b__law_row : MS :=
  (sSeq (sSet 4 (eLc [6] (eRng1 (eCons (eV 1) eNil)) (kN 6) eYes (eBin oAdd (eV 2) (eCallIo 2 F__law_draw 0 [] (eCons (eCal oMax2 (eCons (eC (.int 1)) (eCons (eBin oAdd (eBin oSub (eV 3) (eV 2)) (eC (.int 1))) eNil))) eNil)))))
  b__law_row_1)
def F__law_row : Fs := runF N__law_row.length b__law_row
abbrev s__law_rows_right : Stmt := top 16
abbrev N__law_rows_right : List Str := ["well", "many", "low", "high", "row", "is_list", "count", "due", "held", "below", "each"]
theorem sc__law_rows_right : FnScope N__law_rows_right ["well"] (defScope s__law_rows_right) := ⟨rfl, rfl, rfl, by decide +kernel, rfl, by decide +kernel, by decide +kernel⟩
def l1__law_rows_right_5 : MS :=
  (sIf (eOr (eBl (eBin oNe (eCal oRepr (eCons (eCallN 4 2 1 F_is_row (fun ds es => gIx [.p 0, .p 1, .d 0, .k 0] ds es [.non, .non]) (eCons (eV 4) (eCons (eV 6) eNil)) (eCons (eV 3) eNil)) eNil)) (eCal oRepr (eCons (eV 9) eNil)))) (eBl (eBin oNe (eCal oRepr (eCons (eCall 4 F_is_row [] (eCons (eV 4) (eCons (eV 6) (eCons (eV 2) (eCons (eV 3) eNil))))) eNil)) (eCal oRepr (eCons (eAndV (eV 8) (eV 9)) eNil))))) (sRet (eC (.bl false))) (fun env => .next env))
def l1__law_rows_right_4 : MS :=
  (sSeq (sSet 9 (eAndV (eV 7) (eBin oEq (eLc [10] (eItems (eV 4)) (kN 10) (eNot (eTru (eCall 3 F__law_fits [] (eCons (eV 10) (eCons (eC .non) (eCons (eV 3) eNil)))))) (eV 10)) (eLst eNil))))
  l1__law_rows_right_5)
def l1__law_rows_right_3 : MS :=
  (sSeq (sIf (eOr (eBl (eBin oNe (eCal oRepr (eCons (eCall 4 F_is_row [.non] (eCons (eV 4) (eCons (eV 6) (eCons (eV 2) eNil)))) eNil)) (eCal oRepr (eCons (eV 8) eNil)))) (eBl (eBin oNe (eCal oRepr (eCons (eCallN 4 0 3 F_is_row (fun ds es => gIx [.k 2, .k 1, .k 0, .d 1] ds es [.non, .non]) eNil (eCons (eV 2) (eCons (eV 6) (eCons (eV 4) eNil)))) eNil)) (eCal oRepr (eCons (eV 8) eNil))))) (sRet (eC (.bl false))) (fun env => .next env))
  l1__law_rows_right_4)
def l1__law_rows_right_2 : MS :=
  (sSeq (sSet 8 (eAndV (eV 7) (eBin oEq (eLc [10] (eItems (eV 4)) (kN 10) (eNot (eTru (eCall 3 F__law_fits [] (eCons (eV 10) (eCons (eV 2) (eCons (eC .non) eNil)))))) (eV 10)) (eLst eNil))))
  l1__law_rows_right_3)
def l1__law_rows_right_1 : MS :=
  (sSeq (sIf (eBl (eBin oNe (eCal oRepr (eCons (eCall 4 F_is_row [.non, .non] (eCons (eV 4) (eCons (eV 6) eNil))) eNil)) (eCal oRepr (eCons (eV 7) eNil)))) (sRet (eC (.bl false))) (fun env => .next env))
  l1__law_rows_right_2)
def l1__law_rows_right : MS :=
  (sSeq (sSet 7 (eAndV (eV 5) (eAndV (eBin oEq (eCal oLen (eCons (eV 4) eNil)) (eV 6)) (eBin oEq (eLc [10] (eItems (eV 4)) (kN 10) (eNot (eTru (eCall 1 F__law_plain [] (eCons (eV 10) eNil)))) (eV 10)) (eLst eNil)))))
  l1__law_rows_right_1)
def b__law_rows_right_5 : MS :=
  (sRet (eC (.bl true)))
def b__law_rows_right_4 : MS :=
  (sSeq (sFor (eItems (eTup (eCons (eV 1) (eCons (eBin oAdd (eV 1) (eC (.int 1))) (eCons (eCal oMax2 (eCons (eC (.int 0)) (eCons (eBin oSub (eV 1) (eC (.int 1))) eNil))) eNil))))) (kN 6) l1__law_rows_right)
  b__law_rows_right_5)
def b__law_rows_right_3 : MS :=
  (sSeq (sSet 5 (eIsi ["list", "tuple"] (eV 4)))
  b__law_rows_right_4)
def b__law_rows_right_2 : MS :=
  (sSeq (sSet 4 (eCallIo 4 F__law_row 0 [] (eCons (eV 1) (eCons (eV 2) (eCons (eV 3) eNil)))))
  b__law_rows_right_3)
def b__law_rows_right_1 : MS :=
  (sSeq (sSet 3 (eBin oAdd (eV 2) (eCallIo 2 F__law_draw 0 [] (eCons (eC (.int 3)) eNil))))
  b__law_rows_right_2)
def b__law_rows_right : MS :=
  (sSeq (sAsg (eTup (eCons (eCallIo 2 F__law_draw 0 [] (eCons (eC (.int 5)) eNil)) (eCons (eCallIo 2 F__law_pick 0 [] (eCons (eLst (eCons (eC (.int 0)) (eCons (eUn oNeg (eC (.int 2))) (eCons (eC (.int 5)) eNil)))) eNil)) eNil))) (kT 2 (kCons (kN 1) (kCons (kN 2) kNil))))
  b__law_rows_right_1)
def F__law_rows_right : Fs := runF N__law_rows_right.length b__law_rows_right
abbrev s__law_lots_right : Stmt := top 17
abbrev N__law_lots_right : List Str := ["well", "many", "found", "way", "lot", "due", "at", "each"]
theorem sc__law_lots_right : FnScope N__law_lots_right ["well"] (defScope s__law_lots_right) := ⟨rfl, rfl, rfl, by decide +kernel, rfl, by decide +kernel, by decide +kernel⟩
def b__law_lots_right_12 : MS :=
  (sRet (eAndV (eBin oIs (eCall 2 F_is_lot [] (eCons (eCallIo 2 F__law_pick 0 [] (eCons (eLst (eCons (eC .non) (eCons (eC (.int 0)) (eCons (eC (.str ("" : Str))) (eCons (eC (.str ("01" : Str))) (eCons (fun env => .ok (.dic []) env) (eCons (eDic [((eC (.int 0)), (eC (.int 1)))]) (eCons (eC (.bl true)) eNil)))))))) eNil)) (eCons (eV 1) eNil))) (eC (.bl false))) (eAndV (eBin oIs (eCall 2 F_is_lot [] (eCons (eTup eNil) (eCons (eC (.int 0)) eNil))) (eC (.bl true))) (eBin oIs (eCall 4 F_is_row [.non, .non] (eCons (eLst eNil) (eCons (eC (.int 0)) eNil))) (eC (.bl true))))))
def b__law_lots_right_11 : MS :=
  (sSeq (sIf (eOr (eBl (eBin oNe (eCal oRepr (eCons (eCall 2 F_is_lot [] (eCons (eV 4) (eCons (eV 1) eNil))) eNil)) (eCal oRepr (eCons (eV 5) eNil)))) (eBl (eBin oNe (eCal oRepr (eCons (eCallN 2 0 2 F_is_lot (fun ds es => gIx [.k 1, .k 0] ds es []) eNil (eCons (eV 1) (eCons (eV 4) eNil))) eNil)) (eCal oRepr (eCons (eV 5) eNil))))) (sRet (eC (.bl false))) (fun env => .next env))
  b__law_lots_right_12)
def b__law_lots_right_10 : MS :=
  (sSeq (sSet 5 (eAndV (eV 5) (eBin oEq (eLc [6] (eRng1 (eCons (eBin oSub (eCal oLen (eCons (eV 2) eNil)) (eC (.int 1))) eNil)) (kN 6) (eBl (eBin oGe (eBin oIx (eV 2) (eV 6)) (eBin oIx (eV 2) (eBin oAdd (eV 6) (eC (.int 1)))))) (eV 6)) (eLst eNil))))
  b__law_lots_right_11)
def b__law_lots_right_9 : MS :=
  (sSeq (sSet 5 (eBin oEq (eLc [7] (eItems (eV 2)) (kN 7) (eNot (eTru (eCall 3 F__law_fits [] (eCons (eV 7) (eCons (eC (.int 0)) (eCons (eBin oSub (eV 1) (eC (.int 1))) eNil)))))) (eV 7)) (eLst eNil)))
  b__law_lots_right_10)
def b__law_lots_right_8 : MS :=
  (sSeq (sSet 4 (eIf (eBl (eBin oEq (eCallIo 2 F__law_draw 0 [] (eCons (eC (.int 2)) eNil)) (eC (.int 0)))) (eCal oTupC (eCons (eV 2) eNil)) (eV 2)))
  b__law_lots_right_9)
def b__law_lots_right_7 : MS :=
  (sSeq (sIf (eBl (eBin oEq (eV 3) (eC (.int 4)))) (sSet 2 (eBin oAdd (eV 2) (eLst (eCons (eCallIo 1 F__law_odd 0 [] eNil) eNil)))) (fun env => .next env))
  b__law_lots_right_8)
def b__law_lots_right_6 : MS :=
  (sSeq (sIf (eBl (eBin oEq (eV 3) (eC (.int 3)))) (sSet 2 (eBin oAdd (eV 2) (eLst (eCons (eV 1) eNil)))) (fun env => .next env))
  b__law_lots_right_7)
def b__law_lots_right_5 : MS :=
  (sSeq (sIf (eBl (eBin oEq (eV 3) (eC (.int 2)))) (sSet 2 (eBin oAdd (eLst (eCons (eUn oNeg (eC (.int 1))) eNil)) (eV 2))) (fun env => .next env))
  b__law_lots_right_6)
def b__law_lots_right_4 : MS :=
  (sSeq (sIf (eAnd (eBl (eBin oEq (eV 3) (eC (.int 1)))) (eBl (eBin oNe (eV 2) (eLst eNil)))) (sSet 2 (eBin oAdd (eV 2) (eLst (eCons (eBin oIx (eV 2) (eUn oNeg (eC (.int 1)))) eNil)))) (fun env => .next env))
  b__law_lots_right_5)
def b__law_lots_right_3 : MS :=
  (sSeq (sIf (eBl (eBin oEq (eV 3) (eC (.int 0)))) (sSet 2 (eRev (eV 2))) (fun env => .next env))
  b__law_lots_right_4)
def b__law_lots_right_2 : MS :=
  (sSeq (sSet 3 (eCallIo 2 F__law_draw 0 [] (eCons (eC (.int 8)) eNil)))
  b__law_lots_right_3)
def b__law_lots_right_1 : MS :=
  (sSeq (sSet 2 (eLc [6] (eRng1 (eCons (eV 1) eNil)) (kN 6) (eBl (eBin oEq (eCallIo 2 F__law_draw 0 [] (eCons (eC (.int 2)) eNil)) (eC (.int 0)))) (eV 6)))
  b__law_lots_right_2)
def b__law_lots_right : MS :=
  (sSeq (sSet 1 (eCallIo 2 F__law_draw 0 [] (eCons (eC (.int 6)) eNil)))
  b__law_lots_right_1)
def F__law_lots_right : Fs := runF N__law_lots_right.length b__law_lots_right
abbrev s_law : Stmt := top 18
abbrev N_law : List Str := ["script", "well", "turn"]
theorem sc_law : FnScope N_law ["script"] (defScope s_law) := ⟨rfl, rfl, rfl, by decide +kernel, rfl, by decide +kernel, by decide +kernel⟩
def l1_law : MS :=
  (sIf (eOr (eNot (eTru (eCallIo 1 F__law_within_right 1 [] eNil))) (eOr (eNot (eTru (eCallIo 1 F__law_rows_right 1 [] eNil))) (eNot (eTru (eCallIo 1 F__law_lots_right 1 [] eNil))))) (sRet (eC (.bl false))) (fun env => .next env))
def b_law_2 : MS :=
  (sRet (eC (.bl true)))
def b_law_1 : MS :=
  (sSeq (sFor (eRng1 (eCons (eC (.int 6)) eNil)) (kN 2) l1_law)
  b_law_2)
def b_law : MS :=
  (sSeq (sOwn 1 (fCall 1 F__law_well [] (eCons (eV 0) eNil)))
  b_law_1)
def F_law : Fs := runF N_law.length b_law
section
variable {KF : FR → Prop} {KW : WR → Prop}
theorem run_is_integer {d0 : D} : Go KF (F_is_integer none [d0]) = Go (kRun none KF) (b_is_integer [some (.fz d0)]) := go_runF
theorem run_is_within {d0 d1 d2 : D} : Go KF (F_is_within none [d0, d1, d2]) = Go (kRun none KF) (b_is_within [some (.fz d0), some (.fz d1), some (.fz d2)]) := go_runF
theorem run_is_listed {d0 : D} : Go KF (F_is_listed none [d0]) = Go (kRun none KF) (b_is_listed [some (.fz d0)]) := go_runF
theorem run_is_row {d0 d1 d2 d3 : D} : Go KF (F_is_row none [d0, d1, d2, d3]) = Go (kRun none KF) (b_is_row [some (.fz d0), some (.fz d1), some (.fz d2), some (.fz d3), none]) := go_runF
theorem run_is_lot {d0 d1 : D} : Go KF (F_is_lot none [d0, d1]) = Go (kRun none KF) (b_is_lot [some (.fz d0), some (.fz d1), none, none, none]) := go_runF
theorem run__law_well {d0 : D} : Go KW (F__law_well [d0]) = Go (kRunW KW) (b__law_well [some (.fz d0), none]) := go_runW
theorem run__law_draw {cs : List D} {d1 : D} : Go KF (F__law_draw (some cs) [d1]) = Go (kRun (some cs) KF) (b__law_draw [some (.ol (some 0) cs), some (.fz d1), none, none, none, none]) := go_runF
theorem run__law_pick {cs : List D} {d1 : D} : Go KF (F__law_pick (some cs) [d1]) = Go (kRun (some cs) KF) (b__law_pick [some (.ol (some 0) cs), some (.fz d1)]) := go_runF
theorem run__law_plain {d0 : D} : Go KF (F__law_plain none [d0]) = Go (kRun none KF) (b__law_plain [some (.fz d0)]) := go_runF
theorem run__law_odd {cs : List D} : Go KF (F__law_odd (some cs) []) = Go (kRun (some cs) KF) (b__law_odd [some (.ol (some 0) cs)]) := go_runF
theorem run__law_item {cs : List D} {d1 d2 : D} : Go KF (F__law_item (some cs) [d1, d2]) = Go (kRun (some cs) KF) (b__law_item [some (.ol (some 0) cs), some (.fz d1), some (.fz d2)]) := go_runF
theorem run__law_fits {d0 d1 d2 : D} : Go KF (F__law_fits none [d0, d1, d2]) = Go (kRun none KF) (b__law_fits [some (.fz d0), some (.fz d1), some (.fz d2)]) := go_runF
theorem run__law_within_right {cs : List D} : Go KF (F__law_within_right (some cs) []) = Go (kRun (some cs) KF) (b__law_within_right [some (.ol (some 0) cs), none, none, none, none, none, none]) := go_runF
theorem run__law_row {cs : List D} {d1 d2 d3 : D} : Go KF (F__law_row (some cs) [d1, d2, d3]) = Go (kRun (some cs) KF) (b__law_row [some (.ol (some 0) cs), some (.fz d1), some (.fz d2), some (.fz d3), none, none, none]) := go_runF
theorem run__law_rows_right {cs : List D} : Go KF (F__law_rows_right (some cs) []) = Go (kRun (some cs) KF) (b__law_rows_right [some (.ol (some 0) cs), none, none, none, none, none, none, none, none, none, none]) := go_runF
theorem run__law_lots_right {cs : List D} : Go KF (F__law_lots_right (some cs) []) = Go (kRun (some cs) KF) (b__law_lots_right [some (.ol (some 0) cs), none, none, none, none, none, none, none]) := go_runF
theorem run_law {d0 : D} : Go KF (F_law none [d0]) = Go (kRun none KF) (b_law [some (.fz d0), none, none]) := go_runF
end
/-- what the top has left -/
structure Tx (K : PySem.W.Frag) (mg : Str → Option Value) where
  a_is_integer : Addr
  d_is_integer : FuncData
  F_is_integer : FunD K "is_integer" "is_integer" (defArgs s_is_integer) (defBody s_is_integer) (defScope s_is_integer) [] [] a_is_integer d_is_integer
  g_is_integer : mg "is_integer" = some (.ref a_is_integer)
  a_is_within : Addr
  d_is_within : FuncData
  F_is_within : FunD K "is_within" "is_within" (defArgs s_is_within) (defBody s_is_within) (defScope s_is_within) [] [] a_is_within d_is_within
  g_is_within : mg "is_within" = some (.ref a_is_within)
  a_is_listed : Addr
  d_is_listed : FuncData
  F_is_listed : FunD K "is_listed" "is_listed" (defArgs s_is_listed) (defBody s_is_listed) (defScope s_is_listed) [] [] a_is_listed d_is_listed
  g_is_listed : mg "is_listed" = some (.ref a_is_listed)
  a_is_row : Addr
  d_is_row : FuncData
  F_is_row : FunD K "is_row" "is_row" (defArgs s_is_row) (defBody s_is_row) (defScope s_is_row) [.non, .non] [] a_is_row d_is_row
  g_is_row : mg "is_row" = some (.ref a_is_row)
  a_is_lot : Addr
  d_is_lot : FuncData
  F_is_lot : FunD K "is_lot" "is_lot" (defArgs s_is_lot) (defBody s_is_lot) (defScope s_is_lot) [] [] a_is_lot d_is_lot
  g_is_lot : mg "is_lot" = some (.ref a_is_lot)
  a__law_well : Addr
  d__law_well : FuncData
  F__law_well : FunD K "_law_well" "_law_well" (defArgs s__law_well) (defBody s__law_well) (defScope s__law_well) [] [] a__law_well d__law_well
  g__law_well : mg "_law_well" = some (.ref a__law_well)
  a__law_draw : Addr
  d__law_draw : FuncData
  F__law_draw : FunD K "_law_draw" "_law_draw" (defArgs s__law_draw) (defBody s__law_draw) (defScope s__law_draw) [] [] a__law_draw d__law_draw
  g__law_draw : mg "_law_draw" = some (.ref a__law_draw)
  a__law_pick : Addr
  d__law_pick : FuncData
  F__law_pick : FunD K "_law_pick" "_law_pick" (defArgs s__law_pick) (defBody s__law_pick) (defScope s__law_pick) [] [] a__law_pick d__law_pick
  g__law_pick : mg "_law_pick" = some (.ref a__law_pick)
  a__law_plain : Addr
  d__law_plain : FuncData
  F__law_plain : FunD K "_law_plain" "_law_plain" (defArgs s__law_plain) (defBody s__law_plain) (defScope s__law_plain) [] [] a__law_plain d__law_plain
  g__law_plain : mg "_law_plain" = some (.ref a__law_plain)
  a__law_odd : Addr
  d__law_odd : FuncData
  F__law_odd : FunD K "_law_odd" "_law_odd" (defArgs s__law_odd) (defBody s__law_odd) (defScope s__law_odd) [] [] a__law_odd d__law_odd
  g__law_odd : mg "_law_odd" = some (.ref a__law_odd)
  a__law_item : Addr
  d__law_item : FuncData
  F__law_item : FunD K "_law_item" "_law_item" (defArgs s__law_item) (defBody s__law_item) (defScope s__law_item) [] [] a__law_item d__law_item
  g__law_item : mg "_law_item" = some (.ref a__law_item)
  a__law_fits : Addr
  d__law_fits : FuncData
  F__law_fits : FunD K "_law_fits" "_law_fits" (defArgs s__law_fits) (defBody s__law_fits) (defScope s__law_fits) [] [] a__law_fits d__law_fits
  g__law_fits : mg "_law_fits" = some (.ref a__law_fits)
  a__law_within_right : Addr
  d__law_within_right : FuncData
  F__law_within_right : FunD K "_law_within_right" "_law_within_right" (defArgs s__law_within_right) (defBody s__law_within_right) (defScope s__law_within_right) [] [] a__law_within_right d__law_within_right
  g__law_within_right : mg "_law_within_right" = some (.ref a__law_within_right)
  a__law_row : Addr
  d__law_row : FuncData
  F__law_row : FunD K "_law_row" "_law_row" (defArgs s__law_row) (defBody s__law_row) (defScope s__law_row) [] [] a__law_row d__law_row
  g__law_row : mg "_law_row" = some (.ref a__law_row)
  a__law_rows_right : Addr
  d__law_rows_right : FuncData
  F__law_rows_right : FunD K "_law_rows_right" "_law_rows_right" (defArgs s__law_rows_right) (defBody s__law_rows_right) (defScope s__law_rows_right) [] [] a__law_rows_right d__law_rows_right
  g__law_rows_right : mg "_law_rows_right" = some (.ref a__law_rows_right)
  a__law_lots_right : Addr
  d__law_lots_right : FuncData
  F__law_lots_right : FunD K "_law_lots_right" "_law_lots_right" (defArgs s__law_lots_right) (defBody s__law_lots_right) (defScope s__law_lots_right) [] [] a__law_lots_right d__law_lots_right
  g__law_lots_right : mg "_law_lots_right" = some (.ref a__law_lots_right)
  a_law : Addr
  d_law : FuncData
  F_law : FunD K "law" "law" (defArgs s_law) (defBody s_law) (defScope s_law) [] [] a_law d_law
  g_law : mg "law" = some (.ref a_law)
  z_abs : mg "abs" = none
  z_all : mg "all" = none
  z_bool : mg "bool" = none
  z_int : mg "int" = none
  z_isinstance : mg "isinstance" = none
  z_len : mg "len" = none
  z_list : mg "list" = none
  z_max : mg "max" = none
  z_range : mg "range" = none
  z_repr : mg "repr" = none
  z_tuple : mg "tuple" = none
  z_zip : mg "zip" = none
section
variable {P : Program} {w : World} {K : PySem.W.Frag} {mg : Str → Option Value} {base : Heap}
theorem bd_is_integer (T : Tx K mg) : Binds K T.d_is_integer ["value"] [] := bind0 T.F_is_integer (fun kV doc pm an cdv ct us hl => match us, hl with | [_], _ => rfl)
theorem bd_is_within (T : Tx K mg) : Binds K T.d_is_within ["value", "least", "most"] [] := bind0 T.F_is_within (fun kV doc pm an cdv ct us hl => match us, hl with | [_, _, _], _ => rfl)
theorem bd_is_listed (T : Tx K mg) : Binds K T.d_is_listed ["value"] [] := bind0 T.F_is_listed (fun kV doc pm an cdv ct us hl => match us, hl with | [_], _ => rfl)
theorem bd_is_row (T : Tx K mg) : Binds K T.d_is_row ["value", "many", "least", "most"] [] := bindD T.F_is_row (by intro z; cases z) (fun T0 kV doc pm an cdv ct us its h1 h2 => match us, its, h1, h2 with | [_, _, _, _], [_, _], _, _ => ⟨_, rfl, rfl⟩)
theorem bd_is_lot (T : Tx K mg) : Binds K T.d_is_lot ["value", "many"] [] := bind0 T.F_is_lot (fun kV doc pm an cdv ct us hl => match us, hl with | [_, _], _ => rfl)
theorem bd__law_well (T : Tx K mg) : Binds K T.d__law_well ["script"] [] := bind0 T.F__law_well (fun kV doc pm an cdv ct us hl => match us, hl with | [_], _ => rfl)
theorem bd__law_draw (T : Tx K mg) : Binds K T.d__law_draw ["well", "many"] [] := bind0 T.F__law_draw (fun kV doc pm an cdv ct us hl => match us, hl with | [_, _], _ => rfl)
theorem bd__law_pick (T : Tx K mg) : Binds K T.d__law_pick ["well", "some"] [] := bind0 T.F__law_pick (fun kV doc pm an cdv ct us hl => match us, hl with | [_, _], _ => rfl)
theorem bd__law_plain (T : Tx K mg) : Binds K T.d__law_plain ["value"] [] := bind0 T.F__law_plain (fun kV doc pm an cdv ct us hl => match us, hl with | [_], _ => rfl)
theorem bd__law_odd (T : Tx K mg) : Binds K T.d__law_odd ["well"] [] := bind0 T.F__law_odd (fun kV doc pm an cdv ct us hl => match us, hl with | [_], _ => rfl)
theorem bd__law_item (T : Tx K mg) : Binds K T.d__law_item ["well", "low", "high"] [] := bind0 T.F__law_item (fun kV doc pm an cdv ct us hl => match us, hl with | [_, _, _], _ => rfl)
theorem bd__law_fits (T : Tx K mg) : Binds K T.d__law_fits ["value", "low", "high"] [] := bind0 T.F__law_fits (fun kV doc pm an cdv ct us hl => match us, hl with | [_, _, _], _ => rfl)
theorem bd__law_within_right (T : Tx K mg) : Binds K T.d__law_within_right ["well"] [] := bind0 T.F__law_within_right (fun kV doc pm an cdv ct us hl => match us, hl with | [_], _ => rfl)
theorem bd__law_row (T : Tx K mg) : Binds K T.d__law_row ["well", "many", "low", "high"] [] := bind0 T.F__law_row (fun kV doc pm an cdv ct us hl => match us, hl with | [_, _, _, _], _ => rfl)
theorem bd__law_rows_right (T : Tx K mg) : Binds K T.d__law_rows_right ["well"] [] := bind0 T.F__law_rows_right (fun kV doc pm an cdv ct us hl => match us, hl with | [_], _ => rfl)
theorem bd__law_lots_right (T : Tx K mg) : Binds K T.d__law_lots_right ["well"] [] := bind0 T.F__law_lots_right (fun kV doc pm an cdv ct us hl => match us, hl with | [_], _ => rfl)
theorem bd_law (T : Tx K mg) : Binds K T.d_law ["script"] [] := bind0 T.F_law (fun kV doc pm an cdv ct us hl => match us, hl with | [_], _ => rfl)
theorem ok_is_integer (T : Tx K mg) : FnG P w K mg base 1 T.a_is_integer T.d_is_integer ["value"] (spF K cm0 1 F_is_integer) := by
  exact fnOk T.F_is_integer sc_is_integer (fun cdv A outer s H E hr hgd => (css_one (cs_ret (ce_and (ce_isi1 (T := "int") rfl T.z_isinstance (by decide) noTy_none (ce_v 0) rfl T.z_int (show bootBuiltins "int" = some (.type "int") by decide +kernel)) (ce_one (ce_not (ce_isi1 (T := "bool") rfl T.z_isinstance (by decide) noTy_none (ce_v 0) rfl T.z_bool (show bootBuiltins "bool" = some (.type "bool") by decide +kernel))))))))
theorem ok_is_within (T : Tx K mg) : FnG P w K mg base 2 T.a_is_within T.d_is_within ["value", "least", "most"] (spF K cm0 3 F_is_within) := by
  exact fnOk T.F_is_within sc_is_within (fun cdv A outer s H E hr hgd => (css_cons (cs_if (ct_not (ct_tru (ce_call (ok_is_integer T) (hr.mono (by decide)) hgd rfl T.g_is_integer T.F_is_integer.kp (bd_is_integer T) .nil (fun _ => .nil) (cd_cons (ce_v 0) cd_nil)))) (css_one (cs_ret ce_bl)) css_nil)
  (css_one (cs_ret (ce_and (ce_or (ce_cmp op_isU opd_is (ce_v 1) ce_non (nomark _)) (ce_one (ce_cmp op_ge opd_ge (ce_v 0) (ce_v 1) (nomark _)))) (ce_one (ce_or (ce_cmp op_isU opd_is (ce_v 2) ce_non (nomark _)) (ce_one (ce_cmp op_le opd_le (ce_v 0) (ce_v 2) (nomark _))))))))))
theorem ok_is_listed (T : Tx K mg) : FnG P w K mg base 1 T.a_is_listed T.d_is_listed ["value"] (spF K cm0 1 F_is_listed) := by
  exact fnOk T.F_is_listed sc_is_listed (fun cdv A outer s H E hr hgd => (css_one (cs_ret (ce_isi2 (T := "list") (T' := "tuple") rfl T.z_isinstance (by decide) noTy_none (ce_v 0) rfl T.z_list (show bootBuiltins "list" = some (.type "list") by decide +kernel) rfl T.z_tuple (show bootBuiltins "tuple" = some (.type "tuple") by decide +kernel)))))
theorem ok_is_row (T : Tx K mg) : FnG P w K mg base 3 T.a_is_row T.d_is_row ["value", "many", "least", "most"] (spF K cm0 4 F_is_row) := by
  exact fnOk T.F_is_row sc_is_row (fun cdv A outer s H E hr hgd => (css_one (cs_ret (ce_and (ce_call (ok_is_listed T) (hr.mono (by decide)) hgd rfl T.g_is_listed T.F_is_listed.kp (bd_is_listed T) .nil (fun _ => .nil) (cd_cons (ce_v 0) cd_nil)) (ce_and (ce_cmp (op_eqU (by exact hu_r hr)) opd_eq (ce_calB (call_lenU) cad_len rfl T.z_len (show bootBuiltins "len" = some (.builtin "len") by decide +kernel) (cd_cons (ce_v 0) cd_nil)) (ce_v 1) (nomark _)) (ce_one (ce_calB (cr_all rfl) cad_all rfl T.z_all (show bootBuiltins "all" = some (.builtin "all") by decide +kernel) (cd_cons (ce_lc (own := [("each", 4)]) rfl sc_is_row.nd (ci_seq (ce_v 0)) (blkOk_by (own := [("each", 4)]) (N := N_is_row) (sc := defScope s_is_row) (by decide +kernel)) (by decide) (fun _ _ _ _ _ => (cg_n 4 sc_is_row.nd)) (fun _ _ _ _ _ => cts_nil) (fun _ _ _ _ _ => (ce_call (ok_is_within T) (hr.mono (by decide)) hgd rfl T.g_is_within T.F_is_within.kp (bd_is_within T) .nil (fun _ => .nil) (cd_cons (ce_v 4) (cd_cons (ce_v 2) (cd_cons (ce_v 3) cd_nil)))))) cd_nil))))))))
theorem ok_is_lot (T : Tx K mg) : FnG P w K mg base 3 T.a_is_lot T.d_is_lot ["value", "many"] (spF K cm0 2 F_is_lot) := by
  exact fnOk T.F_is_lot sc_is_lot (fun cdv A outer s H E hr hgd => (css_cons (cs_if (ct_w (cw_or (ct_not (ct_tru (ce_call (ok_is_listed T) (hr.mono (by decide)) hgd rfl T.g_is_listed T.F_is_listed.kp (bd_is_listed T) .nil (fun _ => .nil) (cd_cons (ce_v 0) cd_nil)))) (cw_or1 (ct_not (ct_tru (ce_calB (cr_all rfl) cad_all rfl T.z_all (show bootBuiltins "all" = some (.builtin "all") by decide +kernel) (cd_cons (ce_lc (own := [("each", 4)]) rfl sc_is_lot.nd (ci_seq (ce_v 0)) (blkOk_by (own := [("each", 4)]) (N := N_is_lot) (sc := defScope s_is_lot) (by decide +kernel)) (by decide) (fun _ _ _ _ _ => (cg_n 4 sc_is_lot.nd)) (fun _ _ _ _ _ => cts_nil) (fun _ _ _ _ _ => (ce_call (ok_is_within T) (hr.mono (by decide)) hgd rfl T.g_is_within T.F_is_within.kp (bd_is_within T) .nil (fun _ => .nil) (cd_cons (ce_v 4) (cd_cons ce_int (cd_cons (ce_bin op_sub opd_sub (ce_v 1) ce_int) cd_nil)))))) cd_nil))))))) (css_one (cs_ret ce_bl)) css_nil)
  (css_one (cs_ret (ce_calB (cr_all rfl) cad_all rfl T.z_all (show bootBuiltins "all" = some (.builtin "all") by decide +kernel) (cd_cons (ce_lc (own := [("one", 2), ("other", 3)]) rfl sc_is_lot.nd (ci_zip rfl T.z_zip (cd_cons (ce_v 0) (cd_cons (ce_sl (ce_v 0) (co_some ce_int) co_none) cd_nil))) (blkOk_by (own := [("one", 2), ("other", 3)]) (N := N_is_lot) (sc := defScope s_is_lot) (by decide +kernel)) (by decide) (fun _ _ _ _ _ => (cg_t rfl (cgs_cons (cg_n 2 sc_is_lot.nd) (cgs_cons (cg_n 3 sc_is_lot.nd) cgs_nil)))) (fun _ _ _ _ _ => cts_nil) (fun _ _ _ _ _ => (ce_cmp op_lt opd_lt (ce_v 2) (ce_v 3) (nomark _)))) cd_nil))))))
theorem ok__law_well (T : Tx K mg) : FnG P w K mg base 1 T.a__law_well T.d__law_well ["script"] (spW K cm0 1 F__law_well) := by
  exact fnOkW T.F__law_well sc__law_well (fun cdv A outer s H E hr hgd => (css_one (cs_retF (cf_lst (cd_cons (ce_lc (own := [("cell", 1)]) rfl sc__law_well.nd (ci_seq (ce_sl (ce_v 0) co_none (co_some ce_int))) (blkOk_by (own := [("cell", 1)]) (N := N__law_well) (sc := defScope s__law_well) (by decide +kernel)) (by decide) (fun _ _ _ _ _ => (cg_n 1 sc__law_well.nd)) (fun _ _ _ _ _ => cts_nil) (fun _ _ _ _ _ => (ce_calT (call_int1) cad_int rfl T.z_int (show bootBuiltins "int" = some (.type "int") by decide +kernel) (cd_cons (ce_v 1) cd_nil)))) (cd_cons ce_int (cd_cons ce_int cd_nil)))))))
theorem ok__law_draw (T : Tx K mg) : FnG P w K mg base 1 T.a__law_draw T.d__law_draw ["well", "many"] (spF K cm0 2 F__law_draw) := by
  exact fnOk T.F__law_draw sc__law_draw (fun cdv A outer s H E hr hgd => (css_cons (cs_if (ct_cmp op_gt opd_gt (ce_ixN 0 ix_seq opl_ix ce_int (fun _ _ => rfl)) ce_int (nomark _)) (css_cons (cs_set 5 (ce_calT (call_int1) cad_int rfl T.z_int (show bootBuiltins "int" = some (.type "int") by decide +kernel) (cd_cons (ce_ixN 0 ix_seq opl_ix ce_int (fun _ _ => rfl)) cd_nil)) sc__law_draw.nd)
  (css_cons (cs_put 0 ce_int (ce_bin op_fdiv opd_fdiv (ce_v 5) (ce_v 1)))
  (css_one (cs_ret (ce_bin op_mod opd_mod (ce_calT (call_int1) cad_int rfl T.z_int (show bootBuiltins "int" = some (.type "int") by decide +kernel) (cd_cons (ce_v 5) cd_nil)) (ce_v 1)))))) css_nil)
  (css_cons (cs_set 2 (ce_ixN 0 ix_seq opl_ix ce_int (fun _ _ => rfl)) sc__law_draw.nd)
  (css_cons (cs_put 0 ce_int (ce_bin op_addU opd_add (ce_v 2) ce_int))
  (css_cons (cs_set 3 (ce_bin op_addU opd_add (ce_bin op_mulU opd_mul ce_int (ce_v 2)) ce_int) sc__law_draw.nd)
  (css_cons (cs_if (ct_cmp (op_neU (by exact hu_r hr)) opd_ne (ce_ixN 0 ix_seq opl_ix ce_int (fun _ _ => rfl)) (ce_lst cd_nil) (nomark _)) (css_one (cs_set 3 (ce_ix ix_seq opd_ix (ce_ixN 0 ix_seq opl_ix ce_int (fun _ _ => rfl)) (ce_bin op_mod opd_mod (ce_calT (call_int1) cad_int rfl T.z_int (show bootBuiltins "int" = some (.type "int") by decide +kernel) (cd_cons (ce_v 2) cd_nil)) (ce_calB (call_lenU) cad_len rfl T.z_len (show bootBuiltins "len" = some (.builtin "len") by decide +kernel) (cd_cons (ce_ixN 0 ix_seq opl_ix ce_int (fun _ _ => rfl)) cd_nil))) (fun _ _ => rfl)) sc__law_draw.nd)) css_nil)
  (css_cons (cs_if (ct_w (cw_and (ct_cmp op_lt opd_lt (ce_v 2) (ce_calB (call_lenU) cad_len rfl T.z_len (show bootBuiltins "len" = some (.builtin "len") by decide +kernel) (cd_cons (ce_ixN 0 ix_seq opl_ix ce_int (fun _ _ => rfl)) cd_nil)) (nomark _)) (cw_and1 (ct_cmp op_ge opd_ge (ce_calB (call_abs) cad_abs rfl T.z_abs (show bootBuiltins "abs" = some (.builtin "abs") by decide +kernel) (cd_cons (ce_v 3) cd_nil)) (ce_bin op_pow opd_pow ce_int ce_int) (nomark _))))) (css_cons (cs_set 5 (ce_bin op_addU opd_add (ce_bin op_mulU opd_mul ce_int (ce_bin op_sub opd_sub (ce_calB (call_abs) cad_abs rfl T.z_abs (show bootBuiltins "abs" = some (.builtin "abs") by decide +kernel) (cd_cons (ce_v 3) cd_nil)) (ce_bin op_pow opd_pow ce_int ce_int))) (ce_calT (call_int1) cad_int rfl T.z_int (show bootBuiltins "int" = some (.type "int") by decide +kernel) (cd_cons (ce_cmp op_lt opd_lt (ce_v 3) ce_int (nomark _)) cd_nil))) sc__law_draw.nd)
  (css_cons (cs_put 0 ce_int (ce_bin op_fdiv opd_fdiv (ce_calT (call_int1) cad_int rfl T.z_int (show bootBuiltins "int" = some (.type "int") by decide +kernel) (cd_cons (ce_v 5) cd_nil)) (ce_v 1)))
  (css_one (cs_ret (ce_bin op_mod opd_mod (ce_calT (call_int1) cad_int rfl T.z_int (show bootBuiltins "int" = some (.type "int") by decide +kernel) (cd_cons (ce_v 5) cd_nil)) (ce_v 1)))))) css_nil)
  (css_cons (cs_set 4 (ce_bin op_mod opd_mod (ce_calT (call_int1) cad_int rfl T.z_int (show bootBuiltins "int" = some (.type "int") by decide +kernel) (cd_cons (ce_bin op_pow opd_pow (ce_bin op_addU opd_add (ce_bin op_addU opd_add (ce_bin op_mod opd_mod (ce_calT (call_int1) cad_int rfl T.z_int (show bootBuiltins "int" = some (.type "int") by decide +kernel) (cd_cons (ce_v 3) cd_nil)) ce_int) (ce_bin op_mulU opd_mul ce_int (ce_v 2))) ce_int) ce_int) cd_nil)) ce_int) sc__law_draw.nd)
  (css_cons (cs_set 4 (ce_bin op_mod opd_mod (ce_calT (call_int1) cad_int rfl T.z_int (show bootBuiltins "int" = some (.type "int") by decide +kernel) (cd_cons (ce_bin op_pow opd_pow (ce_bin op_addU opd_add (ce_bin op_addU opd_add (ce_bin op_mulU opd_mul (ce_v 4) (ce_bin op_addU opd_add (ce_bin op_mulU opd_mul ce_int (ce_v 2)) ce_int)) (ce_bin op_mulU opd_mul (ce_bin op_mulU opd_mul ce_int (ce_v 2)) (ce_v 2))) ce_int) ce_int) cd_nil)) ce_int) sc__law_draw.nd)
  (css_one (cs_ret (ce_bin op_mod opd_mod (ce_calT (call_int1) cad_int rfl T.z_int (show bootBuiltins "int" = some (.type "int") by decide +kernel) (cd_cons (ce_bin op_fdiv opd_fdiv (ce_v 4) ce_int) cd_nil)) (ce_v 1)))))))))))))
theorem ok__law_pick (T : Tx K mg) : FnG P w K mg base 2 T.a__law_pick T.d__law_pick ["well", "some"] (spF K cm0 2 F__law_pick) := by
  exact fnOk T.F__law_pick sc__law_pick (fun cdv A outer s H E hr hgd => (css_one (cs_ret (ce_ix ix_seq opd_ix (ce_v 1) (ce_callIo 0 (ok__law_draw T) (hr.mono (by decide)) hgd rfl T.g__law_draw T.F__law_draw.kp (bd__law_draw T) .nil (fun _ => .nil) (cd_cons (ce_calB (call_lenU) cad_len rfl T.z_len (show bootBuiltins "len" = some (.builtin "len") by decide +kernel) (cd_cons (ce_v 1) cd_nil)) cd_nil)) (fun _ _ => rfl)))))
theorem ok__law_plain (T : Tx K mg) : FnG P w K mg base 1 T.a__law_plain T.d__law_plain ["value"] (spF K cm0 1 F__law_plain) := by
  exact fnOk T.F__law_plain sc__law_plain (fun cdv A outer s H E hr hgd => (css_one (cs_ret (ce_and (ce_isi1 (T := "int") rfl T.z_isinstance (by decide) noTy_none (ce_v 0) rfl T.z_int (show bootBuiltins "int" = some (.type "int") by decide +kernel)) (ce_one (ce_not (ce_isi1 (T := "bool") rfl T.z_isinstance (by decide) noTy_none (ce_v 0) rfl T.z_bool (show bootBuiltins "bool" = some (.type "bool") by decide +kernel))))))))
theorem ok__law_odd (T : Tx K mg) : FnG P w K mg base 3 T.a__law_odd T.d__law_odd ["well"] (spF K cm0 1 F__law_odd) := by
  exact fnOk T.F__law_odd sc__law_odd (fun cdv A outer s H E hr hgd => (css_one (cs_ret (ce_callIo 0 (ok__law_pick T) (hr.mono (by decide)) hgd rfl T.g__law_pick T.F__law_pick.kp (bd__law_pick T) .nil (fun _ => .nil) (cd_cons (ce_lst (cd_cons ce_non (cd_cons ce_bl (cd_cons ce_bl (cd_cons ce_str (cd_cons ce_str (cd_cons (ce_tup (cd_cons ce_int cd_nil)) (cd_cons (ce_lst (cd_cons ce_int cd_nil)) (cd_cons ce_dic0 (cd_cons (ce_dic (CPs.cons ce_str ce_int CPs.nil) (by rfl) (by rfl) (fun z => by cases z) (by decide)) (cd_cons (ce_tup cd_nil) (cd_cons (ce_lst cd_nil) (cd_cons ce_str cd_nil))))))))))))) cd_nil)))))
theorem ok__law_item (T : Tx K mg) : FnG P w K mg base 4 T.a__law_item T.d__law_item ["well", "low", "high"] (spF K cm0 3 F__law_item) := by
  exact fnOk T.F__law_item sc__law_item (fun cdv A outer s H E hr hgd => (css_cons (cs_if (ct_cmp (op_eqU (by exact hu_r hr)) opd_eq (ce_callIo 0 (ok__law_draw T) (hr.mono (by decide)) hgd rfl T.g__law_draw T.F__law_draw.kp (bd__law_draw T) .nil (fun _ => .nil) (cd_cons ce_int cd_nil)) ce_int (nomark _)) (css_one (cs_ret (ce_callIo 0 (ok__law_odd T) (hr.mono (by decide)) hgd rfl T.g__law_odd T.F__law_odd.kp (bd__law_odd T) .nil (fun _ => .nil) cd_nil))) css_nil)
  (css_one (cs_ret (ce_callIo 0 (ok__law_pick T) (hr.mono (by decide)) hgd rfl T.g__law_pick T.F__law_pick.kp (bd__law_pick T) .nil (fun _ => .nil) (cd_cons (ce_lst (cd_cons (ce_v 1) (cd_cons (ce_bin op_sub opd_sub (ce_v 1) ce_int) (cd_cons (ce_bin op_addU opd_add (ce_v 1) ce_int) (cd_cons (ce_v 2) (cd_cons (ce_bin op_addU opd_add (ce_v 2) ce_int) (cd_cons (ce_bin op_sub opd_sub (ce_v 2) ce_int) (cd_cons ce_int (cd_cons (ce_un un_neg und_neg ce_int) (cd_cons (ce_bin op_pow opd_pow ce_int ce_int) cd_nil)))))))))) cd_nil))))))
theorem ok__law_fits (T : Tx K mg) : FnG P w K mg base 2 T.a__law_fits T.d__law_fits ["value", "low", "high"] (spF K cm0 3 F__law_fits) := by
  exact fnOk T.F__law_fits sc__law_fits (fun cdv A outer s H E hr hgd => (css_one (cs_ret (ce_and (ce_call (ok__law_plain T) (hr.mono (by decide)) hgd rfl T.g__law_plain T.F__law_plain.kp (bd__law_plain T) .nil (fun _ => .nil) (cd_cons (ce_v 0) cd_nil)) (ce_and (ce_or (ce_cmp op_isU opd_is (ce_v 1) ce_non (nomark _)) (ce_one (ce_cmp op_ge opd_ge (ce_v 0) (ce_v 1) (nomark _)))) (ce_one (ce_or (ce_cmp op_isU opd_is (ce_v 2) ce_non (nomark _)) (ce_one (ce_cmp op_le opd_le (ce_v 0) (ce_v 2) (nomark _))))))))))
theorem ok__law_within_right (T : Tx K mg) : FnG P w K mg base 5 T.a__law_within_right T.d__law_within_right ["well"] (spF K cm0 1 F__law_within_right) := by
  have kb0 := kbn0 (ps := ["value", "least", "most"]) T.F_is_within 0 ["most", "least", "value"] [.k 2, .k 1, .k 0] (fun kV doc pm an cdv ct us ws h1 h2 => match us, ws, h1, h2 with | [], [_, _, _], _, _ => rfl)
  exact fnOk T.F__law_within_right sc__law_within_right (fun cdv A outer s H E hr hgd => (css_cons (cs_set 1 (ce_callIo 0 (ok__law_pick T) (hr.mono (by decide)) hgd rfl T.g__law_pick T.F__law_pick.kp (bd__law_pick T) .nil (fun _ => .nil) (cd_cons (ce_lst (cd_cons ce_int (cd_cons (ce_un un_neg und_neg ce_int) (cd_cons ce_int (cd_cons (ce_bin op_pow opd_pow ce_int ce_int) cd_nil))))) cd_nil)) sc__law_within_right.nd)
  (css_cons (cs_set 2 (ce_bin op_addU opd_add (ce_v 1) (ce_callIo 0 (ok__law_draw T) (hr.mono (by decide)) hgd rfl T.g__law_draw T.F__law_draw.kp (bd__law_draw T) .nil (fun _ => .nil) (cd_cons ce_int cd_nil))) sc__law_within_right.nd)
  (css_cons (cs_for rfl (ci_rng1 rfl T.z_range (cd_cons ce_int cd_nil)) (cg_n 3 sc__law_within_right.nd) (css_cons (cs_set 4 (ce_callIo 0 (ok__law_item T) (hr.mono (by decide)) hgd rfl T.g__law_item T.F__law_item.kp (bd__law_item T) .nil (fun _ => .nil) (cd_cons (ce_v 1) (cd_cons (ce_v 2) cd_nil))) sc__law_within_right.nd)
  (css_cons (cs_for rfl (ci_seq (ce_tup (cd_cons (ce_tup (cd_cons (ce_v 1) (cd_cons (ce_v 2) cd_nil))) (cd_cons (ce_tup (cd_cons ce_non (cd_cons (ce_v 2) cd_nil))) (cd_cons (ce_tup (cd_cons (ce_v 1) (cd_cons ce_non cd_nil))) (cd_cons (ce_tup (cd_cons ce_non (cd_cons ce_non cd_nil))) cd_nil)))))) (cg_t rfl (cgs_cons (cg_n 5 sc__law_within_right.nd) (cgs_cons (cg_n 6 sc__law_within_right.nd) cgs_nil))) (css_one (cs_if (ct_w (cw_or (ct_cmp (op_neU (by exact hu_r hr)) opd_ne (ce_calB (call_repr hgd (by exact hu_r hr)) cad_repr rfl T.z_repr (show bootBuiltins "repr" = some (.builtin "repr") by decide +kernel) (cd_cons (ce_call (ok_is_within T) (hr.mono (by decide)) hgd rfl T.g_is_within T.F_is_within.kp (bd_is_within T) .nil (fun _ => .nil) (cd_cons (ce_v 4) (cd_cons (ce_v 5) (cd_cons (ce_v 6) cd_nil)))) cd_nil)) (ce_calB (call_repr hgd (by exact hu_r hr)) cad_repr rfl T.z_repr (show bootBuiltins "repr" = some (.builtin "repr") by decide +kernel) (cd_cons (ce_call (ok__law_fits T) (hr.mono (by decide)) hgd rfl T.g__law_fits T.F__law_fits.kp (bd__law_fits T) .nil (fun _ => .nil) (cd_cons (ce_v 4) (cd_cons (ce_v 5) (cd_cons (ce_v 6) cd_nil)))) cd_nil)) (nomark _)) (cw_or1 (ct_cmp (op_neU (by exact hu_r hr)) opd_ne (ce_calB (call_repr hgd (by exact hu_r hr)) cad_repr rfl T.z_repr (show bootBuiltins "repr" = some (.builtin "repr") by decide +kernel) (cd_cons (ce_callN0 (ok_is_within T) (hr.mono (by decide)) hgd rfl T.g_is_within T.F_is_within.kp kb0 (fun _ _ _ _ _ h1 h2 => h1.gIx h2 .nil [.k 2, .k 1, .k 0]) (ck_cons (ce_v 6) (ck_cons (ce_v 5) (ck_cons (ce_v 4) ck_nil))) rfl rfl (by decide) rfl rfl) cd_nil)) (ce_calB (call_repr hgd (by exact hu_r hr)) cad_repr rfl T.z_repr (show bootBuiltins "repr" = some (.builtin "repr") by decide +kernel) (cd_cons (ce_call (ok__law_fits T) (hr.mono (by decide)) hgd rfl T.g__law_fits T.F__law_fits.kp (bd__law_fits T) .nil (fun _ => .nil) (cd_cons (ce_v 4) (cd_cons (ce_v 5) (cd_cons (ce_v 6) cd_nil)))) cd_nil)) (nomark _))))) (css_one (cs_ret ce_bl)) css_nil)))
  (css_one (cs_if (ct_cmp (op_neU (by exact hu_r hr)) opd_ne (ce_calB (call_repr hgd (by exact hu_r hr)) cad_repr rfl T.z_repr (show bootBuiltins "repr" = some (.builtin "repr") by decide +kernel) (cd_cons (ce_call (ok_is_integer T) (hr.mono (by decide)) hgd rfl T.g_is_integer T.F_is_integer.kp (bd_is_integer T) .nil (fun _ => .nil) (cd_cons (ce_v 4) cd_nil)) cd_nil)) (ce_calB (call_repr hgd (by exact hu_r hr)) cad_repr rfl T.z_repr (show bootBuiltins "repr" = some (.builtin "repr") by decide +kernel) (cd_cons (ce_call (ok__law_plain T) (hr.mono (by decide)) hgd rfl T.g__law_plain T.F__law_plain.kp (bd__law_plain T) .nil (fun _ => .nil) (cd_cons (ce_v 4) cd_nil)) cd_nil)) (nomark _)) (css_one (cs_ret ce_bl)) css_nil)))))
  (css_one (cs_ret ce_bl))))))
theorem ok__law_row (T : Tx K mg) : FnG P w K mg base 5 T.a__law_row T.d__law_row ["well", "many", "low", "high"] (spF K cm0 4 F__law_row) := by
  exact fnOk T.F__law_row sc__law_row (fun cdv A outer s H E hr hgd => (css_cons (cs_setLc 4 (own := [("turn", 6)]) rfl sc__law_row.nd rfl rfl (sw_true rfl rfl rfl (by decide +kernel)) (ci_rng1 rfl T.z_range (cd_cons (ce_v 1) cd_nil)) (blkOk_by (own := [("turn", 6)]) (N := N__law_row) (sc := defScope s__law_row) (by decide +kernel)) (by decide) (fun _ _ _ _ _ => (cg_n 6 sc__law_row.nd)) (fun _ _ _ _ _ => cts_nil) (fun _ _ _ _ _ => (ce_bin op_addU opd_add (ce_v 2) (ce_callIo 0 (ok__law_draw T) (hr.mono (by decide)) hgd rfl T.g__law_draw T.F__law_draw.kp (bd__law_draw T) .nil (fun _ => .nil) (cd_cons (ce_calB (call_max2 rfl) cad_max2 rfl T.z_max (show bootBuiltins "max" = some (.builtin "max") by decide +kernel) (cd_cons ce_int (cd_cons (ce_bin op_addU opd_add (ce_bin op_sub opd_sub (ce_v 3) (ce_v 2)) ce_int) cd_nil))) cd_nil)))))
  (css_cons (cs_if (ct_w (cw_and (ct_cmp op_gt opd_gt (ce_v 1) ce_int (nomark _)) (cw_and1 (ct_cmp (op_eqU (by exact hu_r hr)) opd_eq (ce_callIo 0 (ok__law_draw T) (hr.mono (by decide)) hgd rfl T.g__law_draw T.F__law_draw.kp (bd__law_draw T) .nil (fun _ => .nil) (cd_cons ce_int cd_nil)) ce_int (nomark _))))) (css_cons (cs_set 5 (ce_callIo 0 (ok__law_draw T) (hr.mono (by decide)) hgd rfl T.g__law_draw T.F__law_draw.kp (bd__law_draw T) .nil (fun _ => .nil) (cd_cons (ce_v 1) cd_nil)) sc__law_row.nd)
  (css_one (cs_set 4 (ce_bin op_addU opd_add (ce_bin op_addU opd_add (ce_sl (ce_v 4) co_none (co_some (ce_v 5))) (ce_lst (cd_cons (ce_callIo 0 (ok__law_item T) (hr.mono (by decide)) hgd rfl T.g__law_item T.F__law_item.kp (bd__law_item T) .nil (fun _ => .nil) (cd_cons (ce_v 2) (cd_cons (ce_v 3) cd_nil))) cd_nil))) (ce_sl (ce_v 4) (co_some (ce_bin op_addU opd_add (ce_v 5) ce_int)) co_none)) sc__law_row.nd))) css_nil)
  (css_cons (cs_if (ct_cmp (op_eqU (by exact hu_r hr)) opd_eq (ce_callIo 0 (ok__law_draw T) (hr.mono (by decide)) hgd rfl T.g__law_draw T.F__law_draw.kp (bd__law_draw T) .nil (fun _ => .nil) (cd_cons ce_int cd_nil)) ce_int (nomark _)) (css_one (cs_ret (ce_callIo 0 (ok__law_pick T) (hr.mono (by decide)) hgd rfl T.g__law_pick T.F__law_pick.kp (bd__law_pick T) .nil (fun _ => .nil) (cd_cons (ce_lst (cd_cons ce_non (cd_cons ce_str (cd_cons ce_int (cd_cons ce_dic0 (cd_cons (ce_dic (CPs.cons ce_int ce_int CPs.nil) (by rfl) (by rfl) (fun z => by cases z) (by decide)) (cd_cons ce_bl (cd_cons ce_str cd_nil)))))))) cd_nil)))) css_nil)
  (css_one (cs_ret (ce_if (ct_cmp (op_eqU (by exact hu_r hr)) opd_eq (ce_callIo 0 (ok__law_draw T) (hr.mono (by decide)) hgd rfl T.g__law_draw T.F__law_draw.kp (bd__law_draw T) .nil (fun _ => .nil) (cd_cons ce_int cd_nil)) ce_int (nomark _)) (ce_calT (call_tuple_of) cad_tup rfl T.z_tuple (show bootBuiltins "tuple" = some (.type "tuple") by decide +kernel) (cd_cons (ce_v 4) cd_nil)) (ce_v 4))))))))
theorem ok__law_rows_right (T : Tx K mg) : FnG P w K mg base 6 T.a__law_rows_right T.d__law_rows_right ["well"] (spF K cm0 1 F__law_rows_right) := by
  obtain ⟨_, hv0, hb0⟩ := T.F_is_row.binds1 (ps := ["value", "many", "least", "most"]) 2 0 (by intro z; cases z) rfl (fun T0 kV doc pm an cdv ct us its h1 h2 => match us, its, h1, h2 with | [_, _], [_, _], _, _ => ⟨_, rfl, rfl⟩)
  obtain ⟨_, hv1, hb1⟩ := T.F_is_row.binds1 (ps := ["value", "many", "least", "most"]) 3 1 (by intro z; cases z) rfl (fun T0 kV doc pm an cdv ct us its h1 h2 => match us, its, h1, h2 with | [_, _, _], [_, _], _, _ => ⟨_, rfl, rfl⟩)
  obtain ⟨_, kb0⟩ := kbnD (ps := ["value", "many", "least", "most"]) T.F_is_row 0 ["least", "many", "value"] [.k 2, .k 1, .k 0, .d 1] (by intro z; cases z) (fun T0 kV doc pm an cdv ct us its ws h1 h2 h3 => match us, its, ws, h1, h2, h3 with | [], [_, _], [_, _, _], _, _, _ => ⟨_, rfl, rfl⟩)
  obtain ⟨_, kb1⟩ := kbnD (ps := ["value", "many", "least", "most"]) T.F_is_row 2 ["most"] [.p 0, .p 1, .d 0, .k 0] (by intro z; cases z) (fun T0 kV doc pm an cdv ct us its ws h1 h2 h3 => match us, its, ws, h1, h2, h3 with | [_, _], [_, _], [_], _, _, _ => ⟨_, rfl, rfl⟩)
  exact fnOk T.F__law_rows_right sc__law_rows_right (fun cdv A outer s H E hr hgd => (css_cons (cs_asg (ce_tup (cd_cons (ce_callIo 0 (ok__law_draw T) (hr.mono (by decide)) hgd rfl T.g__law_draw T.F__law_draw.kp (bd__law_draw T) .nil (fun _ => .nil) (cd_cons ce_int cd_nil)) (cd_cons (ce_callIo 0 (ok__law_pick T) (hr.mono (by decide)) hgd rfl T.g__law_pick T.F__law_pick.kp (bd__law_pick T) .nil (fun _ => .nil) (cd_cons (ce_lst (cd_cons ce_int (cd_cons (ce_un un_neg und_neg ce_int) (cd_cons ce_int cd_nil)))) cd_nil)) cd_nil))) (cg_t rfl (cgs_cons (cg_n 1 sc__law_rows_right.nd) (cgs_cons (cg_n 2 sc__law_rows_right.nd) cgs_nil))))
  (css_cons (cs_set 3 (ce_bin op_addU opd_add (ce_v 2) (ce_callIo 0 (ok__law_draw T) (hr.mono (by decide)) hgd rfl T.g__law_draw T.F__law_draw.kp (bd__law_draw T) .nil (fun _ => .nil) (cd_cons ce_int cd_nil))) sc__law_rows_right.nd)
  (css_cons (cs_set 4 (ce_callIo 0 (ok__law_row T) (hr.mono (by decide)) hgd rfl T.g__law_row T.F__law_row.kp (bd__law_row T) .nil (fun _ => .nil) (cd_cons (ce_v 1) (cd_cons (ce_v 2) (cd_cons (ce_v 3) cd_nil)))) sc__law_rows_right.nd)
  (css_cons (cs_set 5 (ce_isi2 (T := "list") (T' := "tuple") rfl T.z_isinstance (by decide) noTy_none (ce_v 4) rfl T.z_list (show bootBuiltins "list" = some (.type "list") by decide +kernel) rfl T.z_tuple (show bootBuiltins "tuple" = some (.type "tuple") by decide +kernel)) sc__law_rows_right.nd)
  (css_cons (cs_for rfl (ci_seq (ce_tup (cd_cons (ce_v 1) (cd_cons (ce_bin op_addU opd_add (ce_v 1) ce_int) (cd_cons (ce_calB (call_max2 rfl) cad_max2 rfl T.z_max (show bootBuiltins "max" = some (.builtin "max") by decide +kernel) (cd_cons ce_int (cd_cons (ce_bin op_sub opd_sub (ce_v 1) ce_int) cd_nil))) cd_nil))))) (cg_n 6 sc__law_rows_right.nd) (css_cons (cs_set 7 (ce_and (ce_v 5) (ce_and (ce_cmp (op_eqU (by exact hu_r hr)) opd_eq (ce_calB (call_lenU) cad_len rfl T.z_len (show bootBuiltins "len" = some (.builtin "len") by decide +kernel) (cd_cons (ce_v 4) cd_nil)) (ce_v 6) (nomark _)) (ce_one (ce_cmp (op_eqU (by exact hu_r hr)) opd_eq (ce_lc (own := [("each", 10)]) rfl sc__law_rows_right.nd (ci_seq (ce_v 4)) (blkOk_by (own := [("each", 10)]) (N := N__law_rows_right) (sc := defScope s__law_rows_right) (by decide +kernel)) (by decide) (fun _ _ _ _ _ => (cg_n 10 sc__law_rows_right.nd)) (fun _ _ _ _ _ => (cts_one (ct_not (ct_tru (ce_call (ok__law_plain T) (hr.mono (by decide)) hgd rfl T.g__law_plain T.F__law_plain.kp (bd__law_plain T) .nil (fun _ => .nil) (cd_cons (ce_v 10) cd_nil)))))) (fun _ _ _ _ _ => (ce_v 10))) (ce_lst cd_nil) (nomark _))))) sc__law_rows_right.nd)
  (css_cons (cs_if (ct_cmp (op_neU (by exact hu_r hr)) opd_ne (ce_calB (call_repr hgd (by exact hu_r hr)) cad_repr rfl T.z_repr (show bootBuiltins "repr" = some (.builtin "repr") by decide +kernel) (cd_cons (ce_call (ok_is_row T) (hr.mono (by decide)) hgd rfl T.g_is_row T.F_is_row.kp hb0 hv0 (fun _ => (.cons .non (.cons .non .nil))) (cd_cons (ce_v 4) (cd_cons (ce_v 6) cd_nil))) cd_nil)) (ce_calB (call_repr hgd (by exact hu_r hr)) cad_repr rfl T.z_repr (show bootBuiltins "repr" = some (.builtin "repr") by decide +kernel) (cd_cons (ce_v 7) cd_nil)) (nomark _)) (css_one (cs_ret ce_bl)) css_nil)
  (css_cons (cs_set 8 (ce_and (ce_v 7) (ce_one (ce_cmp (op_eqU (by exact hu_r hr)) opd_eq (ce_lc (own := [("each", 10)]) rfl sc__law_rows_right.nd (ci_seq (ce_v 4)) (blkOk_by (own := [("each", 10)]) (N := N__law_rows_right) (sc := defScope s__law_rows_right) (by decide +kernel)) (by decide) (fun _ _ _ _ _ => (cg_n 10 sc__law_rows_right.nd)) (fun _ _ _ _ _ => (cts_one (ct_not (ct_tru (ce_call (ok__law_fits T) (hr.mono (by decide)) hgd rfl T.g__law_fits T.F__law_fits.kp (bd__law_fits T) .nil (fun _ => .nil) (cd_cons (ce_v 10) (cd_cons (ce_v 2) (cd_cons ce_non cd_nil)))))))) (fun _ _ _ _ _ => (ce_v 10))) (ce_lst cd_nil) (nomark _)))) sc__law_rows_right.nd)
  (css_cons (cs_if (ct_w (cw_or (ct_cmp (op_neU (by exact hu_r hr)) opd_ne (ce_calB (call_repr hgd (by exact hu_r hr)) cad_repr rfl T.z_repr (show bootBuiltins "repr" = some (.builtin "repr") by decide +kernel) (cd_cons (ce_call (ok_is_row T) (hr.mono (by decide)) hgd rfl T.g_is_row T.F_is_row.kp hb1 hv1 (fun _ => (.cons .non .nil)) (cd_cons (ce_v 4) (cd_cons (ce_v 6) (cd_cons (ce_v 2) cd_nil)))) cd_nil)) (ce_calB (call_repr hgd (by exact hu_r hr)) cad_repr rfl T.z_repr (show bootBuiltins "repr" = some (.builtin "repr") by decide +kernel) (cd_cons (ce_v 8) cd_nil)) (nomark _)) (cw_or1 (ct_cmp (op_neU (by exact hu_r hr)) opd_ne (ce_calB (call_repr hgd (by exact hu_r hr)) cad_repr rfl T.z_repr (show bootBuiltins "repr" = some (.builtin "repr") by decide +kernel) (cd_cons (ce_callN0 (ok_is_row T) (hr.mono (by decide)) hgd rfl T.g_is_row T.F_is_row.kp kb0 (fun _ _ _ _ _ h1 h2 => h1.gIx h2 (.cons .non (.cons .non .nil)) [.k 2, .k 1, .k 0, .d 1]) (ck_cons (ce_v 2) (ck_cons (ce_v 6) (ck_cons (ce_v 4) ck_nil))) rfl rfl (by decide) rfl rfl) cd_nil)) (ce_calB (call_repr hgd (by exact hu_r hr)) cad_repr rfl T.z_repr (show bootBuiltins "repr" = some (.builtin "repr") by decide +kernel) (cd_cons (ce_v 8) cd_nil)) (nomark _))))) (css_one (cs_ret ce_bl)) css_nil)
  (css_cons (cs_set 9 (ce_and (ce_v 7) (ce_one (ce_cmp (op_eqU (by exact hu_r hr)) opd_eq (ce_lc (own := [("each", 10)]) rfl sc__law_rows_right.nd (ci_seq (ce_v 4)) (blkOk_by (own := [("each", 10)]) (N := N__law_rows_right) (sc := defScope s__law_rows_right) (by decide +kernel)) (by decide) (fun _ _ _ _ _ => (cg_n 10 sc__law_rows_right.nd)) (fun _ _ _ _ _ => (cts_one (ct_not (ct_tru (ce_call (ok__law_fits T) (hr.mono (by decide)) hgd rfl T.g__law_fits T.F__law_fits.kp (bd__law_fits T) .nil (fun _ => .nil) (cd_cons (ce_v 10) (cd_cons ce_non (cd_cons (ce_v 3) cd_nil)))))))) (fun _ _ _ _ _ => (ce_v 10))) (ce_lst cd_nil) (nomark _)))) sc__law_rows_right.nd)
  (css_one (cs_if (ct_w (cw_or (ct_cmp (op_neU (by exact hu_r hr)) opd_ne (ce_calB (call_repr hgd (by exact hu_r hr)) cad_repr rfl T.z_repr (show bootBuiltins "repr" = some (.builtin "repr") by decide +kernel) (cd_cons (ce_callN (ok_is_row T) (hr.mono (by decide)) hgd rfl T.g_is_row T.F_is_row.kp kb1 (fun _ _ _ _ _ h1 h2 => h1.gIx h2 (.cons .non (.cons .non .nil)) [.p 0, .p 1, .d 0, .k 0]) (cd_cons (ce_v 4) (cd_cons (ce_v 6) cd_nil)) (ck_cons (ce_v 3) ck_nil) rfl rfl (by decide) rfl rfl rfl) cd_nil)) (ce_calB (call_repr hgd (by exact hu_r hr)) cad_repr rfl T.z_repr (show bootBuiltins "repr" = some (.builtin "repr") by decide +kernel) (cd_cons (ce_v 9) cd_nil)) (nomark _)) (cw_or1 (ct_cmp (op_neU (by exact hu_r hr)) opd_ne (ce_calB (call_repr hgd (by exact hu_r hr)) cad_repr rfl T.z_repr (show bootBuiltins "repr" = some (.builtin "repr") by decide +kernel) (cd_cons (ce_call (ok_is_row T) (hr.mono (by decide)) hgd rfl T.g_is_row T.F_is_row.kp (bd_is_row T) .nil (fun _ => .nil) (cd_cons (ce_v 4) (cd_cons (ce_v 6) (cd_cons (ce_v 2) (cd_cons (ce_v 3) cd_nil))))) cd_nil)) (ce_calB (call_repr hgd (by exact hu_r hr)) cad_repr rfl T.z_repr (show bootBuiltins "repr" = some (.builtin "repr") by decide +kernel) (cd_cons (ce_and (ce_v 8) (ce_one (ce_v 9))) cd_nil)) (nomark _))))) (css_one (cs_ret ce_bl)) css_nil))))))))
  (css_one (cs_ret ce_bl))))))))
theorem ok__law_lots_right (T : Tx K mg) : FnG P w K mg base 4 T.a__law_lots_right T.d__law_lots_right ["well"] (spF K cm0 1 F__law_lots_right) := by
  obtain ⟨_, hv0, hb0⟩ := T.F_is_row.binds1 (ps := ["value", "many", "least", "most"]) 2 0 (by intro z; cases z) rfl (fun T0 kV doc pm an cdv ct us its h1 h2 => match us, its, h1, h2 with | [_, _], [_, _], _, _ => ⟨_, rfl, rfl⟩)
  have kb0 := kbn0 (ps := ["value", "many"]) T.F_is_lot 0 ["many", "value"] [.k 1, .k 0] (fun kV doc pm an cdv ct us ws h1 h2 => match us, ws, h1, h2 with | [], [_, _], _, _ => rfl)
  exact fnOk T.F__law_lots_right sc__law_lots_right (fun cdv A outer s H E hr hgd => (css_cons (cs_set 1 (ce_callIo 0 (ok__law_draw T) (hr.mono (by decide)) hgd rfl T.g__law_draw T.F__law_draw.kp (bd__law_draw T) .nil (fun _ => .nil) (cd_cons ce_int cd_nil)) sc__law_lots_right.nd)
  (css_cons (cs_set 2 (ce_lc (own := [("at", 6)]) rfl sc__law_lots_right.nd (ci_rng1 rfl T.z_range (cd_cons (ce_v 1) cd_nil)) (blkOk_by (own := [("at", 6)]) (N := N__law_lots_right) (sc := defScope s__law_lots_right) (by decide +kernel)) (by decide) (fun _ _ _ _ _ => (cg_n 6 sc__law_lots_right.nd)) (fun _ _ _ _ _ => (cts_one (ct_cmp (op_eqU (by exact hu_r hr)) opd_eq (ce_callIo 0 (ok__law_draw T) (hr.mono (by decide)) hgd rfl T.g__law_draw T.F__law_draw.kp (bd__law_draw T) .nil (fun _ => .nil) (cd_cons ce_int cd_nil)) ce_int (nomark _)))) (fun _ _ _ _ _ => (ce_v 6))) sc__law_lots_right.nd)
  (css_cons (cs_set 3 (ce_callIo 0 (ok__law_draw T) (hr.mono (by decide)) hgd rfl T.g__law_draw T.F__law_draw.kp (bd__law_draw T) .nil (fun _ => .nil) (cd_cons ce_int cd_nil)) sc__law_lots_right.nd)
  (css_cons (cs_if (ct_cmp (op_eqU (by exact hu_r hr)) opd_eq (ce_v 3) ce_int (nomark _)) (css_one (cs_set 2 (ce_rev (ce_v 2)) sc__law_lots_right.nd)) css_nil)
  (css_cons (cs_if (ct_w (cw_and (ct_cmp (op_eqU (by exact hu_r hr)) opd_eq (ce_v 3) ce_int (nomark _)) (cw_and1 (ct_cmp (op_neU (by exact hu_r hr)) opd_ne (ce_v 2) (ce_lst cd_nil) (nomark _))))) (css_one (cs_set 2 (ce_bin op_addU opd_add (ce_v 2) (ce_lst (cd_cons (ce_ix ix_seq opd_ix (ce_v 2) (ce_un un_neg und_neg ce_int) (fun _ _ => rfl)) cd_nil))) sc__law_lots_right.nd)) css_nil)
  (css_cons (cs_if (ct_cmp (op_eqU (by exact hu_r hr)) opd_eq (ce_v 3) ce_int (nomark _)) (css_one (cs_set 2 (ce_bin op_addU opd_add (ce_lst (cd_cons (ce_un un_neg und_neg ce_int) cd_nil)) (ce_v 2)) sc__law_lots_right.nd)) css_nil)
  (css_cons (cs_if (ct_cmp (op_eqU (by exact hu_r hr)) opd_eq (ce_v 3) ce_int (nomark _)) (css_one (cs_set 2 (ce_bin op_addU opd_add (ce_v 2) (ce_lst (cd_cons (ce_v 1) cd_nil))) sc__law_lots_right.nd)) css_nil)
  (css_cons (cs_if (ct_cmp (op_eqU (by exact hu_r hr)) opd_eq (ce_v 3) ce_int (nomark _)) (css_one (cs_set 2 (ce_bin op_addU opd_add (ce_v 2) (ce_lst (cd_cons (ce_callIo 0 (ok__law_odd T) (hr.mono (by decide)) hgd rfl T.g__law_odd T.F__law_odd.kp (bd__law_odd T) .nil (fun _ => .nil) cd_nil) cd_nil))) sc__law_lots_right.nd)) css_nil)
  (css_cons (cs_set 4 (ce_if (ct_cmp (op_eqU (by exact hu_r hr)) opd_eq (ce_callIo 0 (ok__law_draw T) (hr.mono (by decide)) hgd rfl T.g__law_draw T.F__law_draw.kp (bd__law_draw T) .nil (fun _ => .nil) (cd_cons ce_int cd_nil)) ce_int (nomark _)) (ce_calT (call_tuple_of) cad_tup rfl T.z_tuple (show bootBuiltins "tuple" = some (.type "tuple") by decide +kernel) (cd_cons (ce_v 2) cd_nil)) (ce_v 2)) sc__law_lots_right.nd)
  (css_cons (cs_set 5 (ce_cmp (op_eqU (by exact hu_r hr)) opd_eq (ce_lc (own := [("each", 7)]) rfl sc__law_lots_right.nd (ci_seq (ce_v 2)) (blkOk_by (own := [("each", 7)]) (N := N__law_lots_right) (sc := defScope s__law_lots_right) (by decide +kernel)) (by decide) (fun _ _ _ _ _ => (cg_n 7 sc__law_lots_right.nd)) (fun _ _ _ _ _ => (cts_one (ct_not (ct_tru (ce_call (ok__law_fits T) (hr.mono (by decide)) hgd rfl T.g__law_fits T.F__law_fits.kp (bd__law_fits T) .nil (fun _ => .nil) (cd_cons (ce_v 7) (cd_cons ce_int (cd_cons (ce_bin op_sub opd_sub (ce_v 1) ce_int) cd_nil)))))))) (fun _ _ _ _ _ => (ce_v 7))) (ce_lst cd_nil) (nomark _)) sc__law_lots_right.nd)
  (css_cons (cs_set 5 (ce_and (ce_v 5) (ce_one (ce_cmp (op_eqU (by exact hu_r hr)) opd_eq (ce_lc (own := [("at", 6)]) rfl sc__law_lots_right.nd (ci_rng1 rfl T.z_range (cd_cons (ce_bin op_sub opd_sub (ce_calB (call_lenU) cad_len rfl T.z_len (show bootBuiltins "len" = some (.builtin "len") by decide +kernel) (cd_cons (ce_v 2) cd_nil)) ce_int) cd_nil)) (blkOk_by (own := [("at", 6)]) (N := N__law_lots_right) (sc := defScope s__law_lots_right) (by decide +kernel)) (by decide) (fun _ _ _ _ _ => (cg_n 6 sc__law_lots_right.nd)) (fun _ _ _ _ _ => (cts_one (ct_cmp op_ge opd_ge (ce_ix ix_seq opd_ix (ce_v 2) (ce_v 6) (fun _ _ => rfl)) (ce_ix ix_seq opd_ix (ce_v 2) (ce_bin op_addU opd_add (ce_v 6) ce_int) (fun _ _ => rfl)) (nomark _)))) (fun _ _ _ _ _ => (ce_v 6))) (ce_lst cd_nil) (nomark _)))) sc__law_lots_right.nd)
  (css_cons (cs_if (ct_w (cw_or (ct_cmp (op_neU (by exact hu_r hr)) opd_ne (ce_calB (call_repr hgd (by exact hu_r hr)) cad_repr rfl T.z_repr (show bootBuiltins "repr" = some (.builtin "repr") by decide +kernel) (cd_cons (ce_call (ok_is_lot T) (hr.mono (by decide)) hgd rfl T.g_is_lot T.F_is_lot.kp (bd_is_lot T) .nil (fun _ => .nil) (cd_cons (ce_v 4) (cd_cons (ce_v 1) cd_nil))) cd_nil)) (ce_calB (call_repr hgd (by exact hu_r hr)) cad_repr rfl T.z_repr (show bootBuiltins "repr" = some (.builtin "repr") by decide +kernel) (cd_cons (ce_v 5) cd_nil)) (nomark _)) (cw_or1 (ct_cmp (op_neU (by exact hu_r hr)) opd_ne (ce_calB (call_repr hgd (by exact hu_r hr)) cad_repr rfl T.z_repr (show bootBuiltins "repr" = some (.builtin "repr") by decide +kernel) (cd_cons (ce_callN0 (ok_is_lot T) (hr.mono (by decide)) hgd rfl T.g_is_lot T.F_is_lot.kp kb0 (fun _ _ _ _ _ h1 h2 => h1.gIx h2 .nil [.k 1, .k 0]) (ck_cons (ce_v 1) (ck_cons (ce_v 4) ck_nil)) rfl rfl (by decide) rfl rfl) cd_nil)) (ce_calB (call_repr hgd (by exact hu_r hr)) cad_repr rfl T.z_repr (show bootBuiltins "repr" = some (.builtin "repr") by decide +kernel) (cd_cons (ce_v 5) cd_nil)) (nomark _))))) (css_one (cs_ret ce_bl)) css_nil)
  (css_one (cs_ret (ce_and (ce_cmp op_isU opd_is (ce_call (ok_is_lot T) (hr.mono (by decide)) hgd rfl T.g_is_lot T.F_is_lot.kp (bd_is_lot T) .nil (fun _ => .nil) (cd_cons (ce_callIo 0 (ok__law_pick T) (hr.mono (by decide)) hgd rfl T.g__law_pick T.F__law_pick.kp (bd__law_pick T) .nil (fun _ => .nil) (cd_cons (ce_lst (cd_cons ce_non (cd_cons ce_int (cd_cons ce_str (cd_cons ce_str (cd_cons ce_dic0 (cd_cons (ce_dic (CPs.cons ce_int ce_int CPs.nil) (by rfl) (by rfl) (fun z => by cases z) (by decide)) (cd_cons ce_bl cd_nil)))))))) cd_nil)) (cd_cons (ce_v 1) cd_nil))) ce_bl (nomark _)) (ce_and (ce_cmp op_isU opd_is (ce_call (ok_is_lot T) (hr.mono (by decide)) hgd rfl T.g_is_lot T.F_is_lot.kp (bd_is_lot T) .nil (fun _ => .nil) (cd_cons (ce_tup cd_nil) (cd_cons ce_int cd_nil))) ce_bl (nomark _)) (ce_one (ce_cmp op_isU opd_is (ce_call (ok_is_row T) (hr.mono (by decide)) hgd rfl T.g_is_row T.F_is_row.kp hb0 hv0 (fun _ => (.cons .non (.cons .non .nil))) (cd_cons (ce_lst cd_nil) (cd_cons ce_int cd_nil))) ce_bl (nomark _))))))))))))))))))))
theorem ok_law (T : Tx K mg) : FnG P w K mg base 7 T.a_law T.d_law ["script"] (spF K cm0 1 F_law) := by
  exact fnOk T.F_law sc_law (fun cdv A outer s H E hr hgd => (css_cons (cs_own 1 (cf_call (ok__law_well T) (hr.mono (by decide)) hgd rfl T.g__law_well T.F__law_well.kp (bd__law_well T) .nil (fun _ => .nil) (cd_cons (ce_v 0) cd_nil)) sc_law.nd)
  (css_cons (cs_for rfl (ci_rng1 rfl T.z_range (cd_cons ce_int cd_nil)) (cg_n 2 sc_law.nd) (css_one (cs_if (ct_w (cw_or (ct_not (ct_tru (ce_callIo 1 (ok__law_within_right T) (hr.mono (by decide)) hgd rfl T.g__law_within_right T.F__law_within_right.kp (bd__law_within_right T) .nil (fun _ => .nil) cd_nil))) (cw_or (ct_not (ct_tru (ce_callIo 1 (ok__law_rows_right T) (hr.mono (by decide)) hgd rfl T.g__law_rows_right T.F__law_rows_right.kp (bd__law_rows_right T) .nil (fun _ => .nil) cd_nil))) (cw_or1 (ct_not (ct_tru (ce_callIo 1 (ok__law_lots_right T) (hr.mono (by decide)) hgd rfl T.g__law_lots_right T.F__law_lots_right.kp (bd__law_lots_right T) .nil (fun _ => .nil) cd_nil))))))) (css_one (cs_ret ce_bl)) css_nil)))
  (css_one (cs_ret ce_bl)))))
end
theorem all_mk {l : PySem.W.OpenLaw} {w : World} {K : PySem.W.Frag} {h : Heap} {mg : Str → Option Value} {fa : Addr} (X : K.In h) (G : h.Ns mainGlobals mg) (hfa : mg "law" = some (.ref fa))
    {f0 : Addr} {od0 an0 : Option Addr} {sl0 : Array (Option Value)} {oc0 kV0 dc0 pm0 cd0 ct0 : Value}
    (a0 : PySem.W.nsIn K mainGlobals "is_integer" = some (some (.ref f0)))
    (l0 : K.lookup f0 = some ⟨oc0, od0, .func (PySem.W.fnOf "is_integer" "is_integer" (defArgs s_is_integer) (defBody s_is_integer) (defScope s_is_integer) .none kV0 dc0 pm0 an0 cd0 ct0), sl0⟩)
    (c0 : PySem.W.codeIn K cd0 "is_integer" = true) (k0 : PySem.W.keepIn K (.ref f0) = true)
    {f1 : Addr} {od1 an1 : Option Addr} {sl1 : Array (Option Value)} {oc1 kV1 dc1 pm1 cd1 ct1 : Value}
    (a1 : PySem.W.nsIn K mainGlobals "is_within" = some (some (.ref f1)))
    (l1 : K.lookup f1 = some ⟨oc1, od1, .func (PySem.W.fnOf "is_within" "is_within" (defArgs s_is_within) (defBody s_is_within) (defScope s_is_within) .none kV1 dc1 pm1 an1 cd1 ct1), sl1⟩)
    (c1 : PySem.W.codeIn K cd1 "is_within" = true) (k1 : PySem.W.keepIn K (.ref f1) = true)
    {f2 : Addr} {od2 an2 : Option Addr} {sl2 : Array (Option Value)} {oc2 kV2 dc2 pm2 cd2 ct2 : Value}
    (a2 : PySem.W.nsIn K mainGlobals "is_listed" = some (some (.ref f2)))
    (l2 : K.lookup f2 = some ⟨oc2, od2, .func (PySem.W.fnOf "is_listed" "is_listed" (defArgs s_is_listed) (defBody s_is_listed) (defScope s_is_listed) .none kV2 dc2 pm2 an2 cd2 ct2), sl2⟩)
    (c2 : PySem.W.codeIn K cd2 "is_listed" = true) (k2 : PySem.W.keepIn K (.ref f2) = true)
    {f3 : Addr} {od3 an3 : Option Addr} {sl3 : Array (Option Value)} {oc3 kV3 dc3 pm3 cd3 ct3 : Value}
    (a3 : PySem.W.nsIn K mainGlobals "is_row" = some (some (.ref f3)))
    {T3 : Addr} {to3 : Value} {td3 : Option Addr} {tn3 : Nat} {ts3 : Array (Option Value)}
    (l3 : K.lookup f3 = some ⟨oc3, od3, .func (PySem.W.fnOf "is_row" "is_row" (defArgs s_is_row) (defBody s_is_row) (defScope s_is_row) (.ref T3) kV3 dc3 pm3 an3 cd3 ct3), sl3⟩)
    (c3 : PySem.W.codeIn K cd3 "is_row" = true) (k3 : PySem.W.keepIn K (.ref f3) = true)
    (t3 : K.lookup T3 = some ⟨to3, td3, .seq ([Value.none, Value.none] : List Value).toArray tn3, ts3⟩)
    {f4 : Addr} {od4 an4 : Option Addr} {sl4 : Array (Option Value)} {oc4 kV4 dc4 pm4 cd4 ct4 : Value}
    (a4 : PySem.W.nsIn K mainGlobals "is_lot" = some (some (.ref f4)))
    (l4 : K.lookup f4 = some ⟨oc4, od4, .func (PySem.W.fnOf "is_lot" "is_lot" (defArgs s_is_lot) (defBody s_is_lot) (defScope s_is_lot) .none kV4 dc4 pm4 an4 cd4 ct4), sl4⟩)
    (c4 : PySem.W.codeIn K cd4 "is_lot" = true) (k4 : PySem.W.keepIn K (.ref f4) = true)
    {f5 : Addr} {od5 an5 : Option Addr} {sl5 : Array (Option Value)} {oc5 kV5 dc5 pm5 cd5 ct5 : Value}
    (a5 : PySem.W.nsIn K mainGlobals "_law_well" = some (some (.ref f5)))
    (l5 : K.lookup f5 = some ⟨oc5, od5, .func (PySem.W.fnOf "_law_well" "_law_well" (defArgs s__law_well) (defBody s__law_well) (defScope s__law_well) .none kV5 dc5 pm5 an5 cd5 ct5), sl5⟩)
    (c5 : PySem.W.codeIn K cd5 "_law_well" = true) (k5 : PySem.W.keepIn K (.ref f5) = true)
    {f6 : Addr} {od6 an6 : Option Addr} {sl6 : Array (Option Value)} {oc6 kV6 dc6 pm6 cd6 ct6 : Value}
    (a6 : PySem.W.nsIn K mainGlobals "_law_draw" = some (some (.ref f6)))
    (l6 : K.lookup f6 = some ⟨oc6, od6, .func (PySem.W.fnOf "_law_draw" "_law_draw" (defArgs s__law_draw) (defBody s__law_draw) (defScope s__law_draw) .none kV6 dc6 pm6 an6 cd6 ct6), sl6⟩)
    (c6 : PySem.W.codeIn K cd6 "_law_draw" = true) (k6 : PySem.W.keepIn K (.ref f6) = true)
    {f7 : Addr} {od7 an7 : Option Addr} {sl7 : Array (Option Value)} {oc7 kV7 dc7 pm7 cd7 ct7 : Value}
    (a7 : PySem.W.nsIn K mainGlobals "_law_pick" = some (some (.ref f7)))
    (l7 : K.lookup f7 = some ⟨oc7, od7, .func (PySem.W.fnOf "_law_pick" "_law_pick" (defArgs s__law_pick) (defBody s__law_pick) (defScope s__law_pick) .none kV7 dc7 pm7 an7 cd7 ct7), sl7⟩)
    (c7 : PySem.W.codeIn K cd7 "_law_pick" = true) (k7 : PySem.W.keepIn K (.ref f7) = true)
    {f8 : Addr} {od8 an8 : Option Addr} {sl8 : Array (Option Value)} {oc8 kV8 dc8 pm8 cd8 ct8 : Value}
    (a8 : PySem.W.nsIn K mainGlobals "_law_plain" = some (some (.ref f8)))
    (l8 : K.lookup f8 = some ⟨oc8, od8, .func (PySem.W.fnOf "_law_plain" "_law_plain" (defArgs s__law_plain) (defBody s__law_plain) (defScope s__law_plain) .none kV8 dc8 pm8 an8 cd8 ct8), sl8⟩)
    (c8 : PySem.W.codeIn K cd8 "_law_plain" = true) (k8 : PySem.W.keepIn K (.ref f8) = true)
    {f9 : Addr} {od9 an9 : Option Addr} {sl9 : Array (Option Value)} {oc9 kV9 dc9 pm9 cd9 ct9 : Value}
    (a9 : PySem.W.nsIn K mainGlobals "_law_odd" = some (some (.ref f9)))
    (l9 : K.lookup f9 = some ⟨oc9, od9, .func (PySem.W.fnOf "_law_odd" "_law_odd" (defArgs s__law_odd) (defBody s__law_odd) (defScope s__law_odd) .none kV9 dc9 pm9 an9 cd9 ct9), sl9⟩)
    (c9 : PySem.W.codeIn K cd9 "_law_odd" = true) (k9 : PySem.W.keepIn K (.ref f9) = true)
    {f10 : Addr} {od10 an10 : Option Addr} {sl10 : Array (Option Value)} {oc10 kV10 dc10 pm10 cd10 ct10 : Value}
    (a10 : PySem.W.nsIn K mainGlobals "_law_item" = some (some (.ref f10)))
    (l10 : K.lookup f10 = some ⟨oc10, od10, .func (PySem.W.fnOf "_law_item" "_law_item" (defArgs s__law_item) (defBody s__law_item) (defScope s__law_item) .none kV10 dc10 pm10 an10 cd10 ct10), sl10⟩)
    (c10 : PySem.W.codeIn K cd10 "_law_item" = true) (k10 : PySem.W.keepIn K (.ref f10) = true)
    {f11 : Addr} {od11 an11 : Option Addr} {sl11 : Array (Option Value)} {oc11 kV11 dc11 pm11 cd11 ct11 : Value}
    (a11 : PySem.W.nsIn K mainGlobals "_law_fits" = some (some (.ref f11)))
    (l11 : K.lookup f11 = some ⟨oc11, od11, .func (PySem.W.fnOf "_law_fits" "_law_fits" (defArgs s__law_fits) (defBody s__law_fits) (defScope s__law_fits) .none kV11 dc11 pm11 an11 cd11 ct11), sl11⟩)
    (c11 : PySem.W.codeIn K cd11 "_law_fits" = true) (k11 : PySem.W.keepIn K (.ref f11) = true)
    {f12 : Addr} {od12 an12 : Option Addr} {sl12 : Array (Option Value)} {oc12 kV12 dc12 pm12 cd12 ct12 : Value}
    (a12 : PySem.W.nsIn K mainGlobals "_law_within_right" = some (some (.ref f12)))
    (l12 : K.lookup f12 = some ⟨oc12, od12, .func (PySem.W.fnOf "_law_within_right" "_law_within_right" (defArgs s__law_within_right) (defBody s__law_within_right) (defScope s__law_within_right) .none kV12 dc12 pm12 an12 cd12 ct12), sl12⟩)
    (c12 : PySem.W.codeIn K cd12 "_law_within_right" = true) (k12 : PySem.W.keepIn K (.ref f12) = true)
    {f13 : Addr} {od13 an13 : Option Addr} {sl13 : Array (Option Value)} {oc13 kV13 dc13 pm13 cd13 ct13 : Value}
    (a13 : PySem.W.nsIn K mainGlobals "_law_row" = some (some (.ref f13)))
    (l13 : K.lookup f13 = some ⟨oc13, od13, .func (PySem.W.fnOf "_law_row" "_law_row" (defArgs s__law_row) (defBody s__law_row) (defScope s__law_row) .none kV13 dc13 pm13 an13 cd13 ct13), sl13⟩)
    (c13 : PySem.W.codeIn K cd13 "_law_row" = true) (k13 : PySem.W.keepIn K (.ref f13) = true)
    {f14 : Addr} {od14 an14 : Option Addr} {sl14 : Array (Option Value)} {oc14 kV14 dc14 pm14 cd14 ct14 : Value}
    (a14 : PySem.W.nsIn K mainGlobals "_law_rows_right" = some (some (.ref f14)))
    (l14 : K.lookup f14 = some ⟨oc14, od14, .func (PySem.W.fnOf "_law_rows_right" "_law_rows_right" (defArgs s__law_rows_right) (defBody s__law_rows_right) (defScope s__law_rows_right) .none kV14 dc14 pm14 an14 cd14 ct14), sl14⟩)
    (c14 : PySem.W.codeIn K cd14 "_law_rows_right" = true) (k14 : PySem.W.keepIn K (.ref f14) = true)
    {f15 : Addr} {od15 an15 : Option Addr} {sl15 : Array (Option Value)} {oc15 kV15 dc15 pm15 cd15 ct15 : Value}
    (a15 : PySem.W.nsIn K mainGlobals "_law_lots_right" = some (some (.ref f15)))
    (l15 : K.lookup f15 = some ⟨oc15, od15, .func (PySem.W.fnOf "_law_lots_right" "_law_lots_right" (defArgs s__law_lots_right) (defBody s__law_lots_right) (defScope s__law_lots_right) .none kV15 dc15 pm15 an15 cd15 ct15), sl15⟩)
    (c15 : PySem.W.codeIn K cd15 "_law_lots_right" = true) (k15 : PySem.W.keepIn K (.ref f15) = true)
    {f16 : Addr} {od16 an16 : Option Addr} {sl16 : Array (Option Value)} {oc16 kV16 dc16 pm16 cd16 ct16 : Value}
    (a16 : PySem.W.nsIn K mainGlobals "law" = some (some (.ref f16)))
    (l16 : K.lookup f16 = some ⟨oc16, od16, .func (PySem.W.fnOf "law" "law" (defArgs s_law) (defBody s_law) (defScope s_law) .none kV16 dc16 pm16 an16 cd16 ct16), sl16⟩)
    (c16 : PySem.W.codeIn K cd16 "law" = true) (k16 : PySem.W.keepIn K (.ref f16) = true)
    (z_abs : PySem.W.nsIn K mainGlobals "abs" = some none)
    (z_all : PySem.W.nsIn K mainGlobals "all" = some none)
    (z_bool : PySem.W.nsIn K mainGlobals "bool" = some none)
    (z_int : PySem.W.nsIn K mainGlobals "int" = some none)
    (z_isinstance : PySem.W.nsIn K mainGlobals "isinstance" = some none)
    (z_len : PySem.W.nsIn K mainGlobals "len" = some none)
    (z_list : PySem.W.nsIn K mainGlobals "list" = some none)
    (z_max : PySem.W.nsIn K mainGlobals "max" = some none)
    (z_range : PySem.W.nsIn K mainGlobals "range" = some none)
    (z_repr : PySem.W.nsIn K mainGlobals "repr" = some none)
    (z_tuple : PySem.W.nsIn K mainGlobals "tuple" = some none)
    (z_zip : PySem.W.nsIn K mainGlobals "zip" = some none)
    : ∃ fd : FuncData, (∀ (s : Shared) (v : Value), BindsTo s fd ⟨[v], []⟩ [("script", v)]) ∧ ∀ base : Heap, K.In base → base.Ns mainGlobals mg → FnG l.prog w K mg base 7 fa fd ["script"] (spF K cm0 1 F_law) := by
  have e := hfa.symm.trans (PySem.W.mg_of X G a16)
  cases e
  exact ⟨_, fun s v => .of_eq rfl, fun base _ _ => ok_law ({ a_is_integer := f0, d_is_integer := _, F_is_integer := funD0 l0 c0 k0, g_is_integer := PySem.W.mg_of X G a0, a_is_within := f1, d_is_within := _, F_is_within := funD0 l1 c1 k1, g_is_within := PySem.W.mg_of X G a1, a_is_listed := f2, d_is_listed := _, F_is_listed := funD0 l2 c2 k2, g_is_listed := PySem.W.mg_of X G a2, a_is_row := f3, d_is_row := _, F_is_row := funDd l3 c3 k3 t3 rfl (.cons rfl (.cons rfl .nil)) (by intro z; cases z), g_is_row := PySem.W.mg_of X G a3, a_is_lot := f4, d_is_lot := _, F_is_lot := funD0 l4 c4 k4, g_is_lot := PySem.W.mg_of X G a4, a__law_well := f5, d__law_well := _, F__law_well := funD0 l5 c5 k5, g__law_well := PySem.W.mg_of X G a5, a__law_draw := f6, d__law_draw := _, F__law_draw := funD0 l6 c6 k6, g__law_draw := PySem.W.mg_of X G a6, a__law_pick := f7, d__law_pick := _, F__law_pick := funD0 l7 c7 k7, g__law_pick := PySem.W.mg_of X G a7, a__law_plain := f8, d__law_plain := _, F__law_plain := funD0 l8 c8 k8, g__law_plain := PySem.W.mg_of X G a8, a__law_odd := f9, d__law_odd := _, F__law_odd := funD0 l9 c9 k9, g__law_odd := PySem.W.mg_of X G a9, a__law_item := f10, d__law_item := _, F__law_item := funD0 l10 c10 k10, g__law_item := PySem.W.mg_of X G a10, a__law_fits := f11, d__law_fits := _, F__law_fits := funD0 l11 c11 k11, g__law_fits := PySem.W.mg_of X G a11, a__law_within_right := f12, d__law_within_right := _, F__law_within_right := funD0 l12 c12 k12, g__law_within_right := PySem.W.mg_of X G a12, a__law_row := f13, d__law_row := _, F__law_row := funD0 l13 c13 k13, g__law_row := PySem.W.mg_of X G a13, a__law_rows_right := f14, d__law_rows_right := _, F__law_rows_right := funD0 l14 c14 k14, g__law_rows_right := PySem.W.mg_of X G a14, a__law_lots_right := f15, d__law_lots_right := _, F__law_lots_right := funD0 l15 c15 k15, g__law_lots_right := PySem.W.mg_of X G a15, a_law := fa, d_law := _, F_law := funD0 l16 c16 k16, g_law := hfa, z_abs := PySem.W.mg_none_of X G z_abs, z_all := PySem.W.mg_none_of X G z_all, z_bool := PySem.W.mg_none_of X G z_bool, z_int := PySem.W.mg_none_of X G z_int, z_isinstance := PySem.W.mg_none_of X G z_isinstance, z_len := PySem.W.mg_none_of X G z_len, z_list := PySem.W.mg_none_of X G z_list, z_max := PySem.W.mg_none_of X G z_max, z_range := PySem.W.mg_none_of X G z_range, z_repr := PySem.W.mg_none_of X G z_repr, z_tuple := PySem.W.mg_none_of X G z_tuple, z_zip := PySem.W.mg_none_of X G z_zip } : Tx K mg)⟩
end Lk01

set_option Elab.async false
set_option linter.all false
set_option maxRecDepth 100000
set_option maxHeartbeats 4000000
namespace Lk01
open PySem PySem.Spec PyProof.Rows Vs
/-- None or a whole number -/
def Lim : D → Prop
  | .non => True
  | .int _ => True
  | _ => False
def geL (v : Int) : D → Bool
  | .int l => decide (l ≤ v)
  | _ => true
def leL (v : Int) : D → Bool
  | .int l => decide (v ≤ l)
  | _ => true
def wth (d lo hi : D) : Bool := match d with
  | .int v => geL v lo && leL v hi
  | _ => false
theorem v_is_integer (d : D) : F_is_integer none [d] = .ok (.bl (isI d)) none := of_go (by
  rw [run_is_integer]; unfold b_is_integer
  cases d <;> simp only [k_ok, k_exc, kS_ok, kS_exc, kq_next, kq_ret, kq_brk, kq_cont, kq_exc, kq_retF, go_ok, go_exc, go_next, go_ret, go_brk, go_cont, go_excS, go_retF, go_some, go_v, getV_fz, go_c, go_bin, go_bin1, go_bin2, go_un, go_un1, go_tru, go_tru1, go_bl, go_bl1, go_and, go_andT, go_andF, go_or, go_orT, go_orF, go_not, go_not1, go_andV, go_orV, go_andV1, go_orV1, go_andVT, go_andVF, go_orVT, go_orVF, go_notV, go_notV1, go_notV2, go_if, go_ifT, go_ifF, go_nil, go_cons, go_cons1, go_cons2, go_chk, go_lst, go_tup, go_lst1, go_tup1, go_cal, go_cal1, go_isi, go_isi1, go_seq, go_sRet, go_ret1, go_sExpr, go_ex1, go_sIf, go_sifT, go_sifF, go_optS, go_sAsg, go_asg1, go_sSet, go_set1, go_sPar, go_par1, go_sAug, go_augV, kN_eq, kNil_eq, kCons_eq, kT_eq, rdE_eq, rdO_fz, rdO_ol, ownE_eq, owO_ol, go_binL, go_binL1, go_binL2, oSw_eq, go_binR, go_binR1, go_sPut, go_put1, go_putO, go_put2, go_putP, go_putN, go_retF1, go_fLst, go_fl1, go_sOwn, go_own1, go_call, go_call1, kFR_ok, kFR_exc, go_callIo, go_io0, go_io1, go_io2, kIo_ok, kIo_exc, go_callN, go_calln1, go_calln2, go_okF, go_excF, kRun_next, kRun_ret, kRun_exc, finF_none, finF_some, finS_ol, go_finO, go_finX, go_items, go_items_lst, go_items_tup, go_rng1, go_rng1_ok, go_rng2, go_rng2_ok, go_zip, go_zip_l, go_zip_t, go_enum, go_enum_l, go_sFor, go_for1, kLoop_next, kLoop_cont, kLoop_brk, kLoop_ret, kLoop_exc, turn_next, turn_cont, go_lc, go_lc1, kLc_ok, elem_ok, go_yes, go_sl, go_sl1, go_sl2, go_sl3, go_noP, go_p, go_p1, go_rev, go_rev1, go_chain, go_ch1, go_ch2, go_ch3T, go_ch3F, go_ch4, go_dic, go_dic1, go_prs_nil, go_prs, go_prs1, go_prs2, go_prs3, go_prs4, kW_ok, go_fcall, go_fcall1, kRunW_ok, go_okW, go_cf, go_cf1, oAdd_int, oAdd_bl, atI_0, atI_1, atI_2, atI_3, ixN_0, ixN_1, ixN_2, sz_lit, List.getElem?_cons_zero, List.getElem?_cons_succ, List.set_cons_zero, List.set_cons_succ, List.nil_append, List.cons_append, List.append_nil, List.length_cons, List.length_nil, Nat.reduceSub, Nat.reduceLeDiff, Nat.zero_add, Option.bind_some, Option.map_some, reduceCtorEq, Int.reduceLT, Int.reduceLE, Int.reduceNeg, Int.reducePow, Int.reduceToNat, and_true, true_and, and_self, ite_true, ite_false, if_true, if_false, Bool.not_true, Bool.not_false, Bool.true_and, Bool.false_and, Bool.and_true, Bool.and_false, Bool.true_or, Bool.false_or, oSub, oNeg, oLt, oLe, oGt, oGe, oIs, oIsNot, Vs.isNon, oTru, oBl, oIx, oLen, oAbs, oIntC, oMax2, oMin2, oTupC, oLstC, oSl, keyD, decide_true, decide_false, plainE, fzE, gIx, List.filterMap_cons, List.filterMap_nil, wipeE, restE, List.all_cons, List.all_nil, List.getD_eq_getElem?_getD, Option.getD_some, oMod_ok, oFdiv_ok, oPow_lit, oMul_lit, oRepr_bl, oEq_str, oNe_str, oEq_int, oNe_int, oEq_bl, oNe_bl, oEq_nil, oNe_nil, oIsi_int, oIsi_bool, oIsi_listed, str_beq, isIB, isB, isI, finF_none])
theorem v_plain (d : D) : F__law_plain none [d] = .ok (.bl (isI d)) none := of_go (by
  rw [run__law_plain]; unfold b__law_plain
  cases d <;> simp only [k_ok, k_exc, kS_ok, kS_exc, kq_next, kq_ret, kq_brk, kq_cont, kq_exc, kq_retF, go_ok, go_exc, go_next, go_ret, go_brk, go_cont, go_excS, go_retF, go_some, go_v, getV_fz, go_c, go_bin, go_bin1, go_bin2, go_un, go_un1, go_tru, go_tru1, go_bl, go_bl1, go_and, go_andT, go_andF, go_or, go_orT, go_orF, go_not, go_not1, go_andV, go_orV, go_andV1, go_orV1, go_andVT, go_andVF, go_orVT, go_orVF, go_notV, go_notV1, go_notV2, go_if, go_ifT, go_ifF, go_nil, go_cons, go_cons1, go_cons2, go_chk, go_lst, go_tup, go_lst1, go_tup1, go_cal, go_cal1, go_isi, go_isi1, go_seq, go_sRet, go_ret1, go_sExpr, go_ex1, go_sIf, go_sifT, go_sifF, go_optS, go_sAsg, go_asg1, go_sSet, go_set1, go_sPar, go_par1, go_sAug, go_augV, kN_eq, kNil_eq, kCons_eq, kT_eq, rdE_eq, rdO_fz, rdO_ol, ownE_eq, owO_ol, go_binL, go_binL1, go_binL2, oSw_eq, go_binR, go_binR1, go_sPut, go_put1, go_putO, go_put2, go_putP, go_putN, go_retF1, go_fLst, go_fl1, go_sOwn, go_own1, go_call, go_call1, kFR_ok, kFR_exc, go_callIo, go_io0, go_io1, go_io2, kIo_ok, kIo_exc, go_callN, go_calln1, go_calln2, go_okF, go_excF, kRun_next, kRun_ret, kRun_exc, finF_none, finF_some, finS_ol, go_finO, go_finX, go_items, go_items_lst, go_items_tup, go_rng1, go_rng1_ok, go_rng2, go_rng2_ok, go_zip, go_zip_l, go_zip_t, go_enum, go_enum_l, go_sFor, go_for1, kLoop_next, kLoop_cont, kLoop_brk, kLoop_ret, kLoop_exc, turn_next, turn_cont, go_lc, go_lc1, kLc_ok, elem_ok, go_yes, go_sl, go_sl1, go_sl2, go_sl3, go_noP, go_p, go_p1, go_rev, go_rev1, go_chain, go_ch1, go_ch2, go_ch3T, go_ch3F, go_ch4, go_dic, go_dic1, go_prs_nil, go_prs, go_prs1, go_prs2, go_prs3, go_prs4, kW_ok, go_fcall, go_fcall1, kRunW_ok, go_okW, go_cf, go_cf1, oAdd_int, oAdd_bl, atI_0, atI_1, atI_2, atI_3, ixN_0, ixN_1, ixN_2, sz_lit, List.getElem?_cons_zero, List.getElem?_cons_succ, List.set_cons_zero, List.set_cons_succ, List.nil_append, List.cons_append, List.append_nil, List.length_cons, List.length_nil, Nat.reduceSub, Nat.reduceLeDiff, Nat.zero_add, Option.bind_some, Option.map_some, reduceCtorEq, Int.reduceLT, Int.reduceLE, Int.reduceNeg, Int.reducePow, Int.reduceToNat, and_true, true_and, and_self, ite_true, ite_false, if_true, if_false, Bool.not_true, Bool.not_false, Bool.true_and, Bool.false_and, Bool.and_true, Bool.and_false, Bool.true_or, Bool.false_or, oSub, oNeg, oLt, oLe, oGt, oGe, oIs, oIsNot, Vs.isNon, oTru, oBl, oIx, oLen, oAbs, oIntC, oMax2, oMin2, oTupC, oLstC, oSl, keyD, decide_true, decide_false, plainE, fzE, gIx, List.filterMap_cons, List.filterMap_nil, wipeE, restE, List.all_cons, List.all_nil, List.getD_eq_getElem?_getD, Option.getD_some, oMod_ok, oFdiv_ok, oPow_lit, oMul_lit, oRepr_bl, oEq_str, oNe_str, oEq_int, oNe_int, oEq_bl, oNe_bl, oEq_nil, oNe_nil, oIsi_int, oIsi_bool, oIsi_listed, str_beq, isIB, isB, isI, finF_none])
theorem v_is_listed (d : D) : F_is_listed none [d] = .ok (.bl (isL d)) none := of_go (by
  rw [run_is_listed]; unfold b_is_listed
  simp only [k_ok, k_exc, kS_ok, kS_exc, kq_next, kq_ret, kq_brk, kq_cont, kq_exc, kq_retF, go_ok, go_exc, go_next, go_ret, go_brk, go_cont, go_excS, go_retF, go_some, go_v, getV_fz, go_c, go_bin, go_bin1, go_bin2, go_un, go_un1, go_tru, go_tru1, go_bl, go_bl1, go_and, go_andT, go_andF, go_or, go_orT, go_orF, go_not, go_not1, go_andV, go_orV, go_andV1, go_orV1, go_andVT, go_andVF, go_orVT, go_orVF, go_notV, go_notV1, go_notV2, go_if, go_ifT, go_ifF, go_nil, go_cons, go_cons1, go_cons2, go_chk, go_lst, go_tup, go_lst1, go_tup1, go_cal, go_cal1, go_isi, go_isi1, go_seq, go_sRet, go_ret1, go_sExpr, go_ex1, go_sIf, go_sifT, go_sifF, go_optS, go_sAsg, go_asg1, go_sSet, go_set1, go_sPar, go_par1, go_sAug, go_augV, kN_eq, kNil_eq, kCons_eq, kT_eq, rdE_eq, rdO_fz, rdO_ol, ownE_eq, owO_ol, go_binL, go_binL1, go_binL2, oSw_eq, go_binR, go_binR1, go_sPut, go_put1, go_putO, go_put2, go_putP, go_putN, go_retF1, go_fLst, go_fl1, go_sOwn, go_own1, go_call, go_call1, kFR_ok, kFR_exc, go_callIo, go_io0, go_io1, go_io2, kIo_ok, kIo_exc, go_callN, go_calln1, go_calln2, go_okF, go_excF, kRun_next, kRun_ret, kRun_exc, finF_none, finF_some, finS_ol, go_finO, go_finX, go_items, go_items_lst, go_items_tup, go_rng1, go_rng1_ok, go_rng2, go_rng2_ok, go_zip, go_zip_l, go_zip_t, go_enum, go_enum_l, go_sFor, go_for1, kLoop_next, kLoop_cont, kLoop_brk, kLoop_ret, kLoop_exc, turn_next, turn_cont, go_lc, go_lc1, kLc_ok, elem_ok, go_yes, go_sl, go_sl1, go_sl2, go_sl3, go_noP, go_p, go_p1, go_rev, go_rev1, go_chain, go_ch1, go_ch2, go_ch3T, go_ch3F, go_ch4, go_dic, go_dic1, go_prs_nil, go_prs, go_prs1, go_prs2, go_prs3, go_prs4, kW_ok, go_fcall, go_fcall1, kRunW_ok, go_okW, go_cf, go_cf1, oAdd_int, oAdd_bl, atI_0, atI_1, atI_2, atI_3, ixN_0, ixN_1, ixN_2, sz_lit, List.getElem?_cons_zero, List.getElem?_cons_succ, List.set_cons_zero, List.set_cons_succ, List.nil_append, List.cons_append, List.append_nil, List.length_cons, List.length_nil, Nat.reduceSub, Nat.reduceLeDiff, Nat.zero_add, Option.bind_some, Option.map_some, reduceCtorEq, Int.reduceLT, Int.reduceLE, Int.reduceNeg, Int.reducePow, Int.reduceToNat, and_true, true_and, and_self, ite_true, ite_false, if_true, if_false, Bool.not_true, Bool.not_false, Bool.true_and, Bool.false_and, Bool.and_true, Bool.and_false, Bool.true_or, Bool.false_or, oSub, oNeg, oLt, oLe, oGt, oGe, oIs, oIsNot, Vs.isNon, oTru, oBl, oIx, oLen, oAbs, oIntC, oMax2, oMin2, oTupC, oLstC, oSl, keyD, decide_true, decide_false, plainE, fzE, gIx, List.filterMap_cons, List.filterMap_nil, wipeE, restE, List.all_cons, List.all_nil, List.getD_eq_getElem?_getD, Option.getD_some, oMod_ok, oFdiv_ok, oPow_lit, oMul_lit, oRepr_bl, oEq_str, oNe_str, oEq_int, oNe_int, oEq_bl, oNe_bl, oEq_nil, oNe_nil, oIsi_int, oIsi_bool, oIsi_listed, str_beq, finF_none])
theorem v_is_within (d lo hi : D) (h1 : Lim lo) (h2 : Lim hi) : F_is_within none [d, lo, hi] = .ok (.bl (wth d lo hi)) none := of_go (by
  rw [run_is_within]; unfold b_is_within
  simp only [k_ok, k_exc, kS_ok, kS_exc, kq_next, kq_ret, kq_brk, kq_cont, kq_exc, kq_retF, go_ok, go_exc, go_next, go_ret, go_brk, go_cont, go_excS, go_retF, go_some, go_v, getV_fz, go_c, go_bin, go_bin1, go_bin2, go_un, go_un1, go_tru, go_tru1, go_bl, go_bl1, go_and, go_andT, go_andF, go_or, go_orT, go_orF, go_not, go_not1, go_andV, go_orV, go_andV1, go_orV1, go_andVT, go_andVF, go_orVT, go_orVF, go_notV, go_notV1, go_notV2, go_if, go_ifT, go_ifF, go_nil, go_cons, go_cons1, go_cons2, go_chk, go_lst, go_tup, go_lst1, go_tup1, go_cal, go_cal1, go_isi, go_isi1, go_seq, go_sRet, go_ret1, go_sExpr, go_ex1, go_sIf, go_sifT, go_sifF, go_optS, go_sAsg, go_asg1, go_sSet, go_set1, go_sPar, go_par1, go_sAug, go_augV, kN_eq, kNil_eq, kCons_eq, kT_eq, rdE_eq, rdO_fz, rdO_ol, ownE_eq, owO_ol, go_binL, go_binL1, go_binL2, oSw_eq, go_binR, go_binR1, go_sPut, go_put1, go_putO, go_put2, go_putP, go_putN, go_retF1, go_fLst, go_fl1, go_sOwn, go_own1, go_call, go_call1, kFR_ok, kFR_exc, go_callIo, go_io0, go_io1, go_io2, kIo_ok, kIo_exc, go_callN, go_calln1, go_calln2, go_okF, go_excF, kRun_next, kRun_ret, kRun_exc, finF_none, finF_some, finS_ol, go_finO, go_finX, go_items, go_items_lst, go_items_tup, go_rng1, go_rng1_ok, go_rng2, go_rng2_ok, go_zip, go_zip_l, go_zip_t, go_enum, go_enum_l, go_sFor, go_for1, kLoop_next, kLoop_cont, kLoop_brk, kLoop_ret, kLoop_exc, turn_next, turn_cont, go_lc, go_lc1, kLc_ok, elem_ok, go_yes, go_sl, go_sl1, go_sl2, go_sl3, go_noP, go_p, go_p1, go_rev, go_rev1, go_chain, go_ch1, go_ch2, go_ch3T, go_ch3F, go_ch4, go_dic, go_dic1, go_prs_nil, go_prs, go_prs1, go_prs2, go_prs3, go_prs4, kW_ok, go_fcall, go_fcall1, kRunW_ok, go_okW, go_cf, go_cf1, oAdd_int, oAdd_bl, atI_0, atI_1, atI_2, atI_3, ixN_0, ixN_1, ixN_2, sz_lit, List.getElem?_cons_zero, List.getElem?_cons_succ, List.set_cons_zero, List.set_cons_succ, List.nil_append, List.cons_append, List.append_nil, List.length_cons, List.length_nil, Nat.reduceSub, Nat.reduceLeDiff, Nat.zero_add, Option.bind_some, Option.map_some, reduceCtorEq, Int.reduceLT, Int.reduceLE, Int.reduceNeg, Int.reducePow, Int.reduceToNat, and_true, true_and, and_self, ite_true, ite_false, if_true, if_false, Bool.not_true, Bool.not_false, Bool.true_and, Bool.false_and, Bool.and_true, Bool.and_false, Bool.true_or, Bool.false_or, oSub, oNeg, oLt, oLe, oGt, oGe, oIs, oIsNot, Vs.isNon, oTru, oBl, oIx, oLen, oAbs, oIntC, oMax2, oMin2, oTupC, oLstC, oSl, keyD, decide_true, decide_false, plainE, fzE, gIx, List.filterMap_cons, List.filterMap_nil, wipeE, restE, List.all_cons, List.all_nil, List.getD_eq_getElem?_getD, Option.getD_some, oMod_ok, oFdiv_ok, oPow_lit, oMul_lit, oRepr_bl, oEq_str, oNe_str, oEq_int, oNe_int, oEq_bl, oNe_bl, oEq_nil, oNe_nil, oIsi_int, oIsi_bool, oIsi_listed, str_beq, v_is_integer]
  cases d with
  | int v =>
    cases lo <;> first | exact h1.elim | skip
    · cases hi <;> first | exact h2.elim | skip
      · simp only [k_ok, k_exc, kS_ok, kS_exc, kq_next, kq_ret, kq_brk, kq_cont, kq_exc, kq_retF, go_ok, go_exc, go_next, go_ret, go_brk, go_cont, go_excS, go_retF, go_some, go_v, getV_fz, go_c, go_bin, go_bin1, go_bin2, go_un, go_un1, go_tru, go_tru1, go_bl, go_bl1, go_and, go_andT, go_andF, go_or, go_orT, go_orF, go_not, go_not1, go_andV, go_orV, go_andV1, go_orV1, go_andVT, go_andVF, go_orVT, go_orVF, go_notV, go_notV1, go_notV2, go_if, go_ifT, go_ifF, go_nil, go_cons, go_cons1, go_cons2, go_chk, go_lst, go_tup, go_lst1, go_tup1, go_cal, go_cal1, go_isi, go_isi1, go_seq, go_sRet, go_ret1, go_sExpr, go_ex1, go_sIf, go_sifT, go_sifF, go_optS, go_sAsg, go_asg1, go_sSet, go_set1, go_sPar, go_par1, go_sAug, go_augV, kN_eq, kNil_eq, kCons_eq, kT_eq, rdE_eq, rdO_fz, rdO_ol, ownE_eq, owO_ol, go_binL, go_binL1, go_binL2, oSw_eq, go_binR, go_binR1, go_sPut, go_put1, go_putO, go_put2, go_putP, go_putN, go_retF1, go_fLst, go_fl1, go_sOwn, go_own1, go_call, go_call1, kFR_ok, kFR_exc, go_callIo, go_io0, go_io1, go_io2, kIo_ok, kIo_exc, go_callN, go_calln1, go_calln2, go_okF, go_excF, kRun_next, kRun_ret, kRun_exc, finF_none, finF_some, finS_ol, go_finO, go_finX, go_items, go_items_lst, go_items_tup, go_rng1, go_rng1_ok, go_rng2, go_rng2_ok, go_zip, go_zip_l, go_zip_t, go_enum, go_enum_l, go_sFor, go_for1, kLoop_next, kLoop_cont, kLoop_brk, kLoop_ret, kLoop_exc, turn_next, turn_cont, go_lc, go_lc1, kLc_ok, elem_ok, go_yes, go_sl, go_sl1, go_sl2, go_sl3, go_noP, go_p, go_p1, go_rev, go_rev1, go_chain, go_ch1, go_ch2, go_ch3T, go_ch3F, go_ch4, go_dic, go_dic1, go_prs_nil, go_prs, go_prs1, go_prs2, go_prs3, go_prs4, kW_ok, go_fcall, go_fcall1, kRunW_ok, go_okW, go_cf, go_cf1, oAdd_int, oAdd_bl, atI_0, atI_1, atI_2, atI_3, ixN_0, ixN_1, ixN_2, sz_lit, List.getElem?_cons_zero, List.getElem?_cons_succ, List.set_cons_zero, List.set_cons_succ, List.nil_append, List.cons_append, List.append_nil, List.length_cons, List.length_nil, Nat.reduceSub, Nat.reduceLeDiff, Nat.zero_add, Option.bind_some, Option.map_some, reduceCtorEq, Int.reduceLT, Int.reduceLE, Int.reduceNeg, Int.reducePow, Int.reduceToNat, and_true, true_and, and_self, ite_true, ite_false, if_true, if_false, Bool.not_true, Bool.not_false, Bool.true_and, Bool.false_and, Bool.and_true, Bool.and_false, Bool.true_or, Bool.false_or, oSub, oNeg, oLt, oLe, oGt, oGe, oIs, oIsNot, Vs.isNon, oTru, oBl, oIx, oLen, oAbs, oIntC, oMax2, oMin2, oTupC, oLstC, oSl, keyD, decide_true, decide_false, plainE, fzE, gIx, List.filterMap_cons, List.filterMap_nil, wipeE, restE, List.all_cons, List.all_nil, List.getD_eq_getElem?_getD, Option.getD_some, oMod_ok, oFdiv_ok, oPow_lit, oMul_lit, oRepr_bl, oEq_str, oNe_str, oEq_int, oNe_int, oEq_bl, oNe_bl, oEq_nil, oNe_nil, oIsi_int, oIsi_bool, oIsi_listed, str_beq, isI, b_is_within_1, wth, geL, leL]
      · simp only [k_ok, k_exc, kS_ok, kS_exc, kq_next, kq_ret, kq_brk, kq_cont, kq_exc, kq_retF, go_ok, go_exc, go_next, go_ret, go_brk, go_cont, go_excS, go_retF, go_some, go_v, getV_fz, go_c, go_bin, go_bin1, go_bin2, go_un, go_un1, go_tru, go_tru1, go_bl, go_bl1, go_and, go_andT, go_andF, go_or, go_orT, go_orF, go_not, go_not1, go_andV, go_orV, go_andV1, go_orV1, go_andVT, go_andVF, go_orVT, go_orVF, go_notV, go_notV1, go_notV2, go_if, go_ifT, go_ifF, go_nil, go_cons, go_cons1, go_cons2, go_chk, go_lst, go_tup, go_lst1, go_tup1, go_cal, go_cal1, go_isi, go_isi1, go_seq, go_sRet, go_ret1, go_sExpr, go_ex1, go_sIf, go_sifT, go_sifF, go_optS, go_sAsg, go_asg1, go_sSet, go_set1, go_sPar, go_par1, go_sAug, go_augV, kN_eq, kNil_eq, kCons_eq, kT_eq, rdE_eq, rdO_fz, rdO_ol, ownE_eq, owO_ol, go_binL, go_binL1, go_binL2, oSw_eq, go_binR, go_binR1, go_sPut, go_put1, go_putO, go_put2, go_putP, go_putN, go_retF1, go_fLst, go_fl1, go_sOwn, go_own1, go_call, go_call1, kFR_ok, kFR_exc, go_callIo, go_io0, go_io1, go_io2, kIo_ok, kIo_exc, go_callN, go_calln1, go_calln2, go_okF, go_excF, kRun_next, kRun_ret, kRun_exc, finF_none, finF_some, finS_ol, go_finO, go_finX, go_items, go_items_lst, go_items_tup, go_rng1, go_rng1_ok, go_rng2, go_rng2_ok, go_zip, go_zip_l, go_zip_t, go_enum, go_enum_l, go_sFor, go_for1, kLoop_next, kLoop_cont, kLoop_brk, kLoop_ret, kLoop_exc, turn_next, turn_cont, go_lc, go_lc1, kLc_ok, elem_ok, go_yes, go_sl, go_sl1, go_sl2, go_sl3, go_noP, go_p, go_p1, go_rev, go_rev1, go_chain, go_ch1, go_ch2, go_ch3T, go_ch3F, go_ch4, go_dic, go_dic1, go_prs_nil, go_prs, go_prs1, go_prs2, go_prs3, go_prs4, kW_ok, go_fcall, go_fcall1, kRunW_ok, go_okW, go_cf, go_cf1, oAdd_int, oAdd_bl, atI_0, atI_1, atI_2, atI_3, ixN_0, ixN_1, ixN_2, sz_lit, List.getElem?_cons_zero, List.getElem?_cons_succ, List.set_cons_zero, List.set_cons_succ, List.nil_append, List.cons_append, List.append_nil, List.length_cons, List.length_nil, Nat.reduceSub, Nat.reduceLeDiff, Nat.zero_add, Option.bind_some, Option.map_some, reduceCtorEq, Int.reduceLT, Int.reduceLE, Int.reduceNeg, Int.reducePow, Int.reduceToNat, and_true, true_and, and_self, ite_true, ite_false, if_true, if_false, Bool.not_true, Bool.not_false, Bool.true_and, Bool.false_and, Bool.and_true, Bool.and_false, Bool.true_or, Bool.false_or, oSub, oNeg, oLt, oLe, oGt, oGe, oIs, oIsNot, Vs.isNon, oTru, oBl, oIx, oLen, oAbs, oIntC, oMax2, oMin2, oTupC, oLstC, oSl, keyD, decide_true, decide_false, plainE, fzE, gIx, List.filterMap_cons, List.filterMap_nil, wipeE, restE, List.all_cons, List.all_nil, List.getD_eq_getElem?_getD, Option.getD_some, oMod_ok, oFdiv_ok, oPow_lit, oMul_lit, oRepr_bl, oEq_str, oNe_str, oEq_int, oNe_int, oEq_bl, oNe_bl, oEq_nil, oNe_nil, oIsi_int, oIsi_bool, oIsi_listed, str_beq, isI, b_is_within_1, wth, geL, leL]
    · rename_i l
      by_cases hl : l ≤ v
      · cases hi <;> first | exact h2.elim | skip
        · simp only [k_ok, k_exc, kS_ok, kS_exc, kq_next, kq_ret, kq_brk, kq_cont, kq_exc, kq_retF, go_ok, go_exc, go_next, go_ret, go_brk, go_cont, go_excS, go_retF, go_some, go_v, getV_fz, go_c, go_bin, go_bin1, go_bin2, go_un, go_un1, go_tru, go_tru1, go_bl, go_bl1, go_and, go_andT, go_andF, go_or, go_orT, go_orF, go_not, go_not1, go_andV, go_orV, go_andV1, go_orV1, go_andVT, go_andVF, go_orVT, go_orVF, go_notV, go_notV1, go_notV2, go_if, go_ifT, go_ifF, go_nil, go_cons, go_cons1, go_cons2, go_chk, go_lst, go_tup, go_lst1, go_tup1, go_cal, go_cal1, go_isi, go_isi1, go_seq, go_sRet, go_ret1, go_sExpr, go_ex1, go_sIf, go_sifT, go_sifF, go_optS, go_sAsg, go_asg1, go_sSet, go_set1, go_sPar, go_par1, go_sAug, go_augV, kN_eq, kNil_eq, kCons_eq, kT_eq, rdE_eq, rdO_fz, rdO_ol, ownE_eq, owO_ol, go_binL, go_binL1, go_binL2, oSw_eq, go_binR, go_binR1, go_sPut, go_put1, go_putO, go_put2, go_putP, go_putN, go_retF1, go_fLst, go_fl1, go_sOwn, go_own1, go_call, go_call1, kFR_ok, kFR_exc, go_callIo, go_io0, go_io1, go_io2, kIo_ok, kIo_exc, go_callN, go_calln1, go_calln2, go_okF, go_excF, kRun_next, kRun_ret, kRun_exc, finF_none, finF_some, finS_ol, go_finO, go_finX, go_items, go_items_lst, go_items_tup, go_rng1, go_rng1_ok, go_rng2, go_rng2_ok, go_zip, go_zip_l, go_zip_t, go_enum, go_enum_l, go_sFor, go_for1, kLoop_next, kLoop_cont, kLoop_brk, kLoop_ret, kLoop_exc, turn_next, turn_cont, go_lc, go_lc1, kLc_ok, elem_ok, go_yes, go_sl, go_sl1, go_sl2, go_sl3, go_noP, go_p, go_p1, go_rev, go_rev1, go_chain, go_ch1, go_ch2, go_ch3T, go_ch3F, go_ch4, go_dic, go_dic1, go_prs_nil, go_prs, go_prs1, go_prs2, go_prs3, go_prs4, kW_ok, go_fcall, go_fcall1, kRunW_ok, go_okW, go_cf, go_cf1, oAdd_int, oAdd_bl, atI_0, atI_1, atI_2, atI_3, ixN_0, ixN_1, ixN_2, sz_lit, List.getElem?_cons_zero, List.getElem?_cons_succ, List.set_cons_zero, List.set_cons_succ, List.nil_append, List.cons_append, List.append_nil, List.length_cons, List.length_nil, Nat.reduceSub, Nat.reduceLeDiff, Nat.zero_add, Option.bind_some, Option.map_some, reduceCtorEq, Int.reduceLT, Int.reduceLE, Int.reduceNeg, Int.reducePow, Int.reduceToNat, and_true, true_and, and_self, ite_true, ite_false, if_true, if_false, Bool.not_true, Bool.not_false, Bool.true_and, Bool.false_and, Bool.and_true, Bool.and_false, Bool.true_or, Bool.false_or, oSub, oNeg, oLt, oLe, oGt, oGe, oIs, oIsNot, Vs.isNon, oTru, oBl, oIx, oLen, oAbs, oIntC, oMax2, oMin2, oTupC, oLstC, oSl, keyD, decide_true, decide_false, plainE, fzE, gIx, List.filterMap_cons, List.filterMap_nil, wipeE, restE, List.all_cons, List.all_nil, List.getD_eq_getElem?_getD, Option.getD_some, oMod_ok, oFdiv_ok, oPow_lit, oMul_lit, oRepr_bl, oEq_str, oNe_str, oEq_int, oNe_int, oEq_bl, oNe_bl, oEq_nil, oNe_nil, oIsi_int, oIsi_bool, oIsi_listed, str_beq, isI, b_is_within_1, wth, geL, leL, decide_eq_true hl]
        · simp only [k_ok, k_exc, kS_ok, kS_exc, kq_next, kq_ret, kq_brk, kq_cont, kq_exc, kq_retF, go_ok, go_exc, go_next, go_ret, go_brk, go_cont, go_excS, go_retF, go_some, go_v, getV_fz, go_c, go_bin, go_bin1, go_bin2, go_un, go_un1, go_tru, go_tru1, go_bl, go_bl1, go_and, go_andT, go_andF, go_or, go_orT, go_orF, go_not, go_not1, go_andV, go_orV, go_andV1, go_orV1, go_andVT, go_andVF, go_orVT, go_orVF, go_notV, go_notV1, go_notV2, go_if, go_ifT, go_ifF, go_nil, go_cons, go_cons1, go_cons2, go_chk, go_lst, go_tup, go_lst1, go_tup1, go_cal, go_cal1, go_isi, go_isi1, go_seq, go_sRet, go_ret1, go_sExpr, go_ex1, go_sIf, go_sifT, go_sifF, go_optS, go_sAsg, go_asg1, go_sSet, go_set1, go_sPar, go_par1, go_sAug, go_augV, kN_eq, kNil_eq, kCons_eq, kT_eq, rdE_eq, rdO_fz, rdO_ol, ownE_eq, owO_ol, go_binL, go_binL1, go_binL2, oSw_eq, go_binR, go_binR1, go_sPut, go_put1, go_putO, go_put2, go_putP, go_putN, go_retF1, go_fLst, go_fl1, go_sOwn, go_own1, go_call, go_call1, kFR_ok, kFR_exc, go_callIo, go_io0, go_io1, go_io2, kIo_ok, kIo_exc, go_callN, go_calln1, go_calln2, go_okF, go_excF, kRun_next, kRun_ret, kRun_exc, finF_none, finF_some, finS_ol, go_finO, go_finX, go_items, go_items_lst, go_items_tup, go_rng1, go_rng1_ok, go_rng2, go_rng2_ok, go_zip, go_zip_l, go_zip_t, go_enum, go_enum_l, go_sFor, go_for1, kLoop_next, kLoop_cont, kLoop_brk, kLoop_ret, kLoop_exc, turn_next, turn_cont, go_lc, go_lc1, kLc_ok, elem_ok, go_yes, go_sl, go_sl1, go_sl2, go_sl3, go_noP, go_p, go_p1, go_rev, go_rev1, go_chain, go_ch1, go_ch2, go_ch3T, go_ch3F, go_ch4, go_dic, go_dic1, go_prs_nil, go_prs, go_prs1, go_prs2, go_prs3, go_prs4, kW_ok, go_fcall, go_fcall1, kRunW_ok, go_okW, go_cf, go_cf1, oAdd_int, oAdd_bl, atI_0, atI_1, atI_2, atI_3, ixN_0, ixN_1, ixN_2, sz_lit, List.getElem?_cons_zero, List.getElem?_cons_succ, List.set_cons_zero, List.set_cons_succ, List.nil_append, List.cons_append, List.append_nil, List.length_cons, List.length_nil, Nat.reduceSub, Nat.reduceLeDiff, Nat.zero_add, Option.bind_some, Option.map_some, reduceCtorEq, Int.reduceLT, Int.reduceLE, Int.reduceNeg, Int.reducePow, Int.reduceToNat, and_true, true_and, and_self, ite_true, ite_false, if_true, if_false, Bool.not_true, Bool.not_false, Bool.true_and, Bool.false_and, Bool.and_true, Bool.and_false, Bool.true_or, Bool.false_or, oSub, oNeg, oLt, oLe, oGt, oGe, oIs, oIsNot, Vs.isNon, oTru, oBl, oIx, oLen, oAbs, oIntC, oMax2, oMin2, oTupC, oLstC, oSl, keyD, decide_true, decide_false, plainE, fzE, gIx, List.filterMap_cons, List.filterMap_nil, wipeE, restE, List.all_cons, List.all_nil, List.getD_eq_getElem?_getD, Option.getD_some, oMod_ok, oFdiv_ok, oPow_lit, oMul_lit, oRepr_bl, oEq_str, oNe_str, oEq_int, oNe_int, oEq_bl, oNe_bl, oEq_nil, oNe_nil, oIsi_int, oIsi_bool, oIsi_listed, str_beq, isI, b_is_within_1, wth, geL, leL, decide_eq_true hl]
      · cases hi <;> first | exact h2.elim | skip
        · simp only [k_ok, k_exc, kS_ok, kS_exc, kq_next, kq_ret, kq_brk, kq_cont, kq_exc, kq_retF, go_ok, go_exc, go_next, go_ret, go_brk, go_cont, go_excS, go_retF, go_some, go_v, getV_fz, go_c, go_bin, go_bin1, go_bin2, go_un, go_un1, go_tru, go_tru1, go_bl, go_bl1, go_and, go_andT, go_andF, go_or, go_orT, go_orF, go_not, go_not1, go_andV, go_orV, go_andV1, go_orV1, go_andVT, go_andVF, go_orVT, go_orVF, go_notV, go_notV1, go_notV2, go_if, go_ifT, go_ifF, go_nil, go_cons, go_cons1, go_cons2, go_chk, go_lst, go_tup, go_lst1, go_tup1, go_cal, go_cal1, go_isi, go_isi1, go_seq, go_sRet, go_ret1, go_sExpr, go_ex1, go_sIf, go_sifT, go_sifF, go_optS, go_sAsg, go_asg1, go_sSet, go_set1, go_sPar, go_par1, go_sAug, go_augV, kN_eq, kNil_eq, kCons_eq, kT_eq, rdE_eq, rdO_fz, rdO_ol, ownE_eq, owO_ol, go_binL, go_binL1, go_binL2, oSw_eq, go_binR, go_binR1, go_sPut, go_put1, go_putO, go_put2, go_putP, go_putN, go_retF1, go_fLst, go_fl1, go_sOwn, go_own1, go_call, go_call1, kFR_ok, kFR_exc, go_callIo, go_io0, go_io1, go_io2, kIo_ok, kIo_exc, go_callN, go_calln1, go_calln2, go_okF, go_excF, kRun_next, kRun_ret, kRun_exc, finF_none, finF_some, finS_ol, go_finO, go_finX, go_items, go_items_lst, go_items_tup, go_rng1, go_rng1_ok, go_rng2, go_rng2_ok, go_zip, go_zip_l, go_zip_t, go_enum, go_enum_l, go_sFor, go_for1, kLoop_next, kLoop_cont, kLoop_brk, kLoop_ret, kLoop_exc, turn_next, turn_cont, go_lc, go_lc1, kLc_ok, elem_ok, go_yes, go_sl, go_sl1, go_sl2, go_sl3, go_noP, go_p, go_p1, go_rev, go_rev1, go_chain, go_ch1, go_ch2, go_ch3T, go_ch3F, go_ch4, go_dic, go_dic1, go_prs_nil, go_prs, go_prs1, go_prs2, go_prs3, go_prs4, kW_ok, go_fcall, go_fcall1, kRunW_ok, go_okW, go_cf, go_cf1, oAdd_int, oAdd_bl, atI_0, atI_1, atI_2, atI_3, ixN_0, ixN_1, ixN_2, sz_lit, List.getElem?_cons_zero, List.getElem?_cons_succ, List.set_cons_zero, List.set_cons_succ, List.nil_append, List.cons_append, List.append_nil, List.length_cons, List.length_nil, Nat.reduceSub, Nat.reduceLeDiff, Nat.zero_add, Option.bind_some, Option.map_some, reduceCtorEq, Int.reduceLT, Int.reduceLE, Int.reduceNeg, Int.reducePow, Int.reduceToNat, and_true, true_and, and_self, ite_true, ite_false, if_true, if_false, Bool.not_true, Bool.not_false, Bool.true_and, Bool.false_and, Bool.and_true, Bool.and_false, Bool.true_or, Bool.false_or, oSub, oNeg, oLt, oLe, oGt, oGe, oIs, oIsNot, Vs.isNon, oTru, oBl, oIx, oLen, oAbs, oIntC, oMax2, oMin2, oTupC, oLstC, oSl, keyD, decide_true, decide_false, plainE, fzE, gIx, List.filterMap_cons, List.filterMap_nil, wipeE, restE, List.all_cons, List.all_nil, List.getD_eq_getElem?_getD, Option.getD_some, oMod_ok, oFdiv_ok, oPow_lit, oMul_lit, oRepr_bl, oEq_str, oNe_str, oEq_int, oNe_int, oEq_bl, oNe_bl, oEq_nil, oNe_nil, oIsi_int, oIsi_bool, oIsi_listed, str_beq, isI, b_is_within_1, wth, geL, leL, decide_eq_false hl]
        · simp only [k_ok, k_exc, kS_ok, kS_exc, kq_next, kq_ret, kq_brk, kq_cont, kq_exc, kq_retF, go_ok, go_exc, go_next, go_ret, go_brk, go_cont, go_excS, go_retF, go_some, go_v, getV_fz, go_c, go_bin, go_bin1, go_bin2, go_un, go_un1, go_tru, go_tru1, go_bl, go_bl1, go_and, go_andT, go_andF, go_or, go_orT, go_orF, go_not, go_not1, go_andV, go_orV, go_andV1, go_orV1, go_andVT, go_andVF, go_orVT, go_orVF, go_notV, go_notV1, go_notV2, go_if, go_ifT, go_ifF, go_nil, go_cons, go_cons1, go_cons2, go_chk, go_lst, go_tup, go_lst1, go_tup1, go_cal, go_cal1, go_isi, go_isi1, go_seq, go_sRet, go_ret1, go_sExpr, go_ex1, go_sIf, go_sifT, go_sifF, go_optS, go_sAsg, go_asg1, go_sSet, go_set1, go_sPar, go_par1, go_sAug, go_augV, kN_eq, kNil_eq, kCons_eq, kT_eq, rdE_eq, rdO_fz, rdO_ol, ownE_eq, owO_ol, go_binL, go_binL1, go_binL2, oSw_eq, go_binR, go_binR1, go_sPut, go_put1, go_putO, go_put2, go_putP, go_putN, go_retF1, go_fLst, go_fl1, go_sOwn, go_own1, go_call, go_call1, kFR_ok, kFR_exc, go_callIo, go_io0, go_io1, go_io2, kIo_ok, kIo_exc, go_callN, go_calln1, go_calln2, go_okF, go_excF, kRun_next, kRun_ret, kRun_exc, finF_none, finF_some, finS_ol, go_finO, go_finX, go_items, go_items_lst, go_items_tup, go_rng1, go_rng1_ok, go_rng2, go_rng2_ok, go_zip, go_zip_l, go_zip_t, go_enum, go_enum_l, go_sFor, go_for1, kLoop_next, kLoop_cont, kLoop_brk, kLoop_ret, kLoop_exc, turn_next, turn_cont, go_lc, go_lc1, kLc_ok, elem_ok, go_yes, go_sl, go_sl1, go_sl2, go_sl3, go_noP, go_p, go_p1, go_rev, go_rev1, go_chain, go_ch1, go_ch2, go_ch3T, go_ch3F, go_ch4, go_dic, go_dic1, go_prs_nil, go_prs, go_prs1, go_prs2, go_prs3, go_prs4, kW_ok, go_fcall, go_fcall1, kRunW_ok, go_okW, go_cf, go_cf1, oAdd_int, oAdd_bl, atI_0, atI_1, atI_2, atI_3, ixN_0, ixN_1, ixN_2, sz_lit, List.getElem?_cons_zero, List.getElem?_cons_succ, List.set_cons_zero, List.set_cons_succ, List.nil_append, List.cons_append, List.append_nil, List.length_cons, List.length_nil, Nat.reduceSub, Nat.reduceLeDiff, Nat.zero_add, Option.bind_some, Option.map_some, reduceCtorEq, Int.reduceLT, Int.reduceLE, Int.reduceNeg, Int.reducePow, Int.reduceToNat, and_true, true_and, and_self, ite_true, ite_false, if_true, if_false, Bool.not_true, Bool.not_false, Bool.true_and, Bool.false_and, Bool.and_true, Bool.and_false, Bool.true_or, Bool.false_or, oSub, oNeg, oLt, oLe, oGt, oGe, oIs, oIsNot, Vs.isNon, oTru, oBl, oIx, oLen, oAbs, oIntC, oMax2, oMin2, oTupC, oLstC, oSl, keyD, decide_true, decide_false, plainE, fzE, gIx, List.filterMap_cons, List.filterMap_nil, wipeE, restE, List.all_cons, List.all_nil, List.getD_eq_getElem?_getD, Option.getD_some, oMod_ok, oFdiv_ok, oPow_lit, oMul_lit, oRepr_bl, oEq_str, oNe_str, oEq_int, oNe_int, oEq_bl, oNe_bl, oEq_nil, oNe_nil, oIsi_int, oIsi_bool, oIsi_listed, str_beq, isI, b_is_within_1, wth, geL, leL, decide_eq_false hl]
  | _ => simp only [k_ok, k_exc, kS_ok, kS_exc, kq_next, kq_ret, kq_brk, kq_cont, kq_exc, kq_retF, go_ok, go_exc, go_next, go_ret, go_brk, go_cont, go_excS, go_retF, go_some, go_v, getV_fz, go_c, go_bin, go_bin1, go_bin2, go_un, go_un1, go_tru, go_tru1, go_bl, go_bl1, go_and, go_andT, go_andF, go_or, go_orT, go_orF, go_not, go_not1, go_andV, go_orV, go_andV1, go_orV1, go_andVT, go_andVF, go_orVT, go_orVF, go_notV, go_notV1, go_notV2, go_if, go_ifT, go_ifF, go_nil, go_cons, go_cons1, go_cons2, go_chk, go_lst, go_tup, go_lst1, go_tup1, go_cal, go_cal1, go_isi, go_isi1, go_seq, go_sRet, go_ret1, go_sExpr, go_ex1, go_sIf, go_sifT, go_sifF, go_optS, go_sAsg, go_asg1, go_sSet, go_set1, go_sPar, go_par1, go_sAug, go_augV, kN_eq, kNil_eq, kCons_eq, kT_eq, rdE_eq, rdO_fz, rdO_ol, ownE_eq, owO_ol, go_binL, go_binL1, go_binL2, oSw_eq, go_binR, go_binR1, go_sPut, go_put1, go_putO, go_put2, go_putP, go_putN, go_retF1, go_fLst, go_fl1, go_sOwn, go_own1, go_call, go_call1, kFR_ok, kFR_exc, go_callIo, go_io0, go_io1, go_io2, kIo_ok, kIo_exc, go_callN, go_calln1, go_calln2, go_okF, go_excF, kRun_next, kRun_ret, kRun_exc, finF_none, finF_some, finS_ol, go_finO, go_finX, go_items, go_items_lst, go_items_tup, go_rng1, go_rng1_ok, go_rng2, go_rng2_ok, go_zip, go_zip_l, go_zip_t, go_enum, go_enum_l, go_sFor, go_for1, kLoop_next, kLoop_cont, kLoop_brk, kLoop_ret, kLoop_exc, turn_next, turn_cont, go_lc, go_lc1, kLc_ok, elem_ok, go_yes, go_sl, go_sl1, go_sl2, go_sl3, go_noP, go_p, go_p1, go_rev, go_rev1, go_chain, go_ch1, go_ch2, go_ch3T, go_ch3F, go_ch4, go_dic, go_dic1, go_prs_nil, go_prs, go_prs1, go_prs2, go_prs3, go_prs4, kW_ok, go_fcall, go_fcall1, kRunW_ok, go_okW, go_cf, go_cf1, oAdd_int, oAdd_bl, atI_0, atI_1, atI_2, atI_3, ixN_0, ixN_1, ixN_2, sz_lit, List.getElem?_cons_zero, List.getElem?_cons_succ, List.set_cons_zero, List.set_cons_succ, List.nil_append, List.cons_append, List.append_nil, List.length_cons, List.length_nil, Nat.reduceSub, Nat.reduceLeDiff, Nat.zero_add, Option.bind_some, Option.map_some, reduceCtorEq, Int.reduceLT, Int.reduceLE, Int.reduceNeg, Int.reducePow, Int.reduceToNat, and_true, true_and, and_self, ite_true, ite_false, if_true, if_false, Bool.not_true, Bool.not_false, Bool.true_and, Bool.false_and, Bool.and_true, Bool.and_false, Bool.true_or, Bool.false_or, oSub, oNeg, oLt, oLe, oGt, oGe, oIs, oIsNot, Vs.isNon, oTru, oBl, oIx, oLen, oAbs, oIntC, oMax2, oMin2, oTupC, oLstC, oSl, keyD, decide_true, decide_false, plainE, fzE, gIx, List.filterMap_cons, List.filterMap_nil, wipeE, restE, List.all_cons, List.all_nil, List.getD_eq_getElem?_getD, Option.getD_some, oMod_ok, oFdiv_ok, oPow_lit, oMul_lit, oRepr_bl, oEq_str, oNe_str, oEq_int, oNe_int, oEq_bl, oNe_bl, oEq_nil, oNe_nil, oIsi_int, oIsi_bool, oIsi_listed, str_beq, isI, b_is_within_1, wth])
theorem v_fits (d lo hi : D) (h1 : Lim lo) (h2 : Lim hi) : F__law_fits none [d, lo, hi] = .ok (.bl (wth d lo hi)) none := of_go (by
  rw [run__law_fits]; unfold b__law_fits
  simp only [k_ok, k_exc, kS_ok, kS_exc, kq_next, kq_ret, kq_brk, kq_cont, kq_exc, kq_retF, go_ok, go_exc, go_next, go_ret, go_brk, go_cont, go_excS, go_retF, go_some, go_v, getV_fz, go_c, go_bin, go_bin1, go_bin2, go_un, go_un1, go_tru, go_tru1, go_bl, go_bl1, go_and, go_andT, go_andF, go_or, go_orT, go_orF, go_not, go_not1, go_andV, go_orV, go_andV1, go_orV1, go_andVT, go_andVF, go_orVT, go_orVF, go_notV, go_notV1, go_notV2, go_if, go_ifT, go_ifF, go_nil, go_cons, go_cons1, go_cons2, go_chk, go_lst, go_tup, go_lst1, go_tup1, go_cal, go_cal1, go_isi, go_isi1, go_seq, go_sRet, go_ret1, go_sExpr, go_ex1, go_sIf, go_sifT, go_sifF, go_optS, go_sAsg, go_asg1, go_sSet, go_set1, go_sPar, go_par1, go_sAug, go_augV, kN_eq, kNil_eq, kCons_eq, kT_eq, rdE_eq, rdO_fz, rdO_ol, ownE_eq, owO_ol, go_binL, go_binL1, go_binL2, oSw_eq, go_binR, go_binR1, go_sPut, go_put1, go_putO, go_put2, go_putP, go_putN, go_retF1, go_fLst, go_fl1, go_sOwn, go_own1, go_call, go_call1, kFR_ok, kFR_exc, go_callIo, go_io0, go_io1, go_io2, kIo_ok, kIo_exc, go_callN, go_calln1, go_calln2, go_okF, go_excF, kRun_next, kRun_ret, kRun_exc, finF_none, finF_some, finS_ol, go_finO, go_finX, go_items, go_items_lst, go_items_tup, go_rng1, go_rng1_ok, go_rng2, go_rng2_ok, go_zip, go_zip_l, go_zip_t, go_enum, go_enum_l, go_sFor, go_for1, kLoop_next, kLoop_cont, kLoop_brk, kLoop_ret, kLoop_exc, turn_next, turn_cont, go_lc, go_lc1, kLc_ok, elem_ok, go_yes, go_sl, go_sl1, go_sl2, go_sl3, go_noP, go_p, go_p1, go_rev, go_rev1, go_chain, go_ch1, go_ch2, go_ch3T, go_ch3F, go_ch4, go_dic, go_dic1, go_prs_nil, go_prs, go_prs1, go_prs2, go_prs3, go_prs4, kW_ok, go_fcall, go_fcall1, kRunW_ok, go_okW, go_cf, go_cf1, oAdd_int, oAdd_bl, atI_0, atI_1, atI_2, atI_3, ixN_0, ixN_1, ixN_2, sz_lit, List.getElem?_cons_zero, List.getElem?_cons_succ, List.set_cons_zero, List.set_cons_succ, List.nil_append, List.cons_append, List.append_nil, List.length_cons, List.length_nil, Nat.reduceSub, Nat.reduceLeDiff, Nat.zero_add, Option.bind_some, Option.map_some, reduceCtorEq, Int.reduceLT, Int.reduceLE, Int.reduceNeg, Int.reducePow, Int.reduceToNat, and_true, true_and, and_self, ite_true, ite_false, if_true, if_false, Bool.not_true, Bool.not_false, Bool.true_and, Bool.false_and, Bool.and_true, Bool.and_false, Bool.true_or, Bool.false_or, oSub, oNeg, oLt, oLe, oGt, oGe, oIs, oIsNot, Vs.isNon, oTru, oBl, oIx, oLen, oAbs, oIntC, oMax2, oMin2, oTupC, oLstC, oSl, keyD, decide_true, decide_false, plainE, fzE, gIx, List.filterMap_cons, List.filterMap_nil, wipeE, restE, List.all_cons, List.all_nil, List.getD_eq_getElem?_getD, Option.getD_some, oMod_ok, oFdiv_ok, oPow_lit, oMul_lit, oRepr_bl, oEq_str, oNe_str, oEq_int, oNe_int, oEq_bl, oNe_bl, oEq_nil, oNe_nil, oIsi_int, oIsi_bool, oIsi_listed, str_beq, v_plain]
  cases d with
  | int v =>
    cases lo <;> first | exact h1.elim | skip
    · cases hi <;> first | exact h2.elim | skip
      · simp only [k_ok, k_exc, kS_ok, kS_exc, kq_next, kq_ret, kq_brk, kq_cont, kq_exc, kq_retF, go_ok, go_exc, go_next, go_ret, go_brk, go_cont, go_excS, go_retF, go_some, go_v, getV_fz, go_c, go_bin, go_bin1, go_bin2, go_un, go_un1, go_tru, go_tru1, go_bl, go_bl1, go_and, go_andT, go_andF, go_or, go_orT, go_orF, go_not, go_not1, go_andV, go_orV, go_andV1, go_orV1, go_andVT, go_andVF, go_orVT, go_orVF, go_notV, go_notV1, go_notV2, go_if, go_ifT, go_ifF, go_nil, go_cons, go_cons1, go_cons2, go_chk, go_lst, go_tup, go_lst1, go_tup1, go_cal, go_cal1, go_isi, go_isi1, go_seq, go_sRet, go_ret1, go_sExpr, go_ex1, go_sIf, go_sifT, go_sifF, go_optS, go_sAsg, go_asg1, go_sSet, go_set1, go_sPar, go_par1, go_sAug, go_augV, kN_eq, kNil_eq, kCons_eq, kT_eq, rdE_eq, rdO_fz, rdO_ol, ownE_eq, owO_ol, go_binL, go_binL1, go_binL2, oSw_eq, go_binR, go_binR1, go_sPut, go_put1, go_putO, go_put2, go_putP, go_putN, go_retF1, go_fLst, go_fl1, go_sOwn, go_own1, go_call, go_call1, kFR_ok, kFR_exc, go_callIo, go_io0, go_io1, go_io2, kIo_ok, kIo_exc, go_callN, go_calln1, go_calln2, go_okF, go_excF, kRun_next, kRun_ret, kRun_exc, finF_none, finF_some, finS_ol, go_finO, go_finX, go_items, go_items_lst, go_items_tup, go_rng1, go_rng1_ok, go_rng2, go_rng2_ok, go_zip, go_zip_l, go_zip_t, go_enum, go_enum_l, go_sFor, go_for1, kLoop_next, kLoop_cont, kLoop_brk, kLoop_ret, kLoop_exc, turn_next, turn_cont, go_lc, go_lc1, kLc_ok, elem_ok, go_yes, go_sl, go_sl1, go_sl2, go_sl3, go_noP, go_p, go_p1, go_rev, go_rev1, go_chain, go_ch1, go_ch2, go_ch3T, go_ch3F, go_ch4, go_dic, go_dic1, go_prs_nil, go_prs, go_prs1, go_prs2, go_prs3, go_prs4, kW_ok, go_fcall, go_fcall1, kRunW_ok, go_okW, go_cf, go_cf1, oAdd_int, oAdd_bl, atI_0, atI_1, atI_2, atI_3, ixN_0, ixN_1, ixN_2, sz_lit, List.getElem?_cons_zero, List.getElem?_cons_succ, List.set_cons_zero, List.set_cons_succ, List.nil_append, List.cons_append, List.append_nil, List.length_cons, List.length_nil, Nat.reduceSub, Nat.reduceLeDiff, Nat.zero_add, Option.bind_some, Option.map_some, reduceCtorEq, Int.reduceLT, Int.reduceLE, Int.reduceNeg, Int.reducePow, Int.reduceToNat, and_true, true_and, and_self, ite_true, ite_false, if_true, if_false, Bool.not_true, Bool.not_false, Bool.true_and, Bool.false_and, Bool.and_true, Bool.and_false, Bool.true_or, Bool.false_or, oSub, oNeg, oLt, oLe, oGt, oGe, oIs, oIsNot, Vs.isNon, oTru, oBl, oIx, oLen, oAbs, oIntC, oMax2, oMin2, oTupC, oLstC, oSl, keyD, decide_true, decide_false, plainE, fzE, gIx, List.filterMap_cons, List.filterMap_nil, wipeE, restE, List.all_cons, List.all_nil, List.getD_eq_getElem?_getD, Option.getD_some, oMod_ok, oFdiv_ok, oPow_lit, oMul_lit, oRepr_bl, oEq_str, oNe_str, oEq_int, oNe_int, oEq_bl, oNe_bl, oEq_nil, oNe_nil, oIsi_int, oIsi_bool, oIsi_listed, str_beq, isI, wth, geL, leL]
      · simp only [k_ok, k_exc, kS_ok, kS_exc, kq_next, kq_ret, kq_brk, kq_cont, kq_exc, kq_retF, go_ok, go_exc, go_next, go_ret, go_brk, go_cont, go_excS, go_retF, go_some, go_v, getV_fz, go_c, go_bin, go_bin1, go_bin2, go_un, go_un1, go_tru, go_tru1, go_bl, go_bl1, go_and, go_andT, go_andF, go_or, go_orT, go_orF, go_not, go_not1, go_andV, go_orV, go_andV1, go_orV1, go_andVT, go_andVF, go_orVT, go_orVF, go_notV, go_notV1, go_notV2, go_if, go_ifT, go_ifF, go_nil, go_cons, go_cons1, go_cons2, go_chk, go_lst, go_tup, go_lst1, go_tup1, go_cal, go_cal1, go_isi, go_isi1, go_seq, go_sRet, go_ret1, go_sExpr, go_ex1, go_sIf, go_sifT, go_sifF, go_optS, go_sAsg, go_asg1, go_sSet, go_set1, go_sPar, go_par1, go_sAug, go_augV, kN_eq, kNil_eq, kCons_eq, kT_eq, rdE_eq, rdO_fz, rdO_ol, ownE_eq, owO_ol, go_binL, go_binL1, go_binL2, oSw_eq, go_binR, go_binR1, go_sPut, go_put1, go_putO, go_put2, go_putP, go_putN, go_retF1, go_fLst, go_fl1, go_sOwn, go_own1, go_call, go_call1, kFR_ok, kFR_exc, go_callIo, go_io0, go_io1, go_io2, kIo_ok, kIo_exc, go_callN, go_calln1, go_calln2, go_okF, go_excF, kRun_next, kRun_ret, kRun_exc, finF_none, finF_some, finS_ol, go_finO, go_finX, go_items, go_items_lst, go_items_tup, go_rng1, go_rng1_ok, go_rng2, go_rng2_ok, go_zip, go_zip_l, go_zip_t, go_enum, go_enum_l, go_sFor, go_for1, kLoop_next, kLoop_cont, kLoop_brk, kLoop_ret, kLoop_exc, turn_next, turn_cont, go_lc, go_lc1, kLc_ok, elem_ok, go_yes, go_sl, go_sl1, go_sl2, go_sl3, go_noP, go_p, go_p1, go_rev, go_rev1, go_chain, go_ch1, go_ch2, go_ch3T, go_ch3F, go_ch4, go_dic, go_dic1, go_prs_nil, go_prs, go_prs1, go_prs2, go_prs3, go_prs4, kW_ok, go_fcall, go_fcall1, kRunW_ok, go_okW, go_cf, go_cf1, oAdd_int, oAdd_bl, atI_0, atI_1, atI_2, atI_3, ixN_0, ixN_1, ixN_2, sz_lit, List.getElem?_cons_zero, List.getElem?_cons_succ, List.set_cons_zero, List.set_cons_succ, List.nil_append, List.cons_append, List.append_nil, List.length_cons, List.length_nil, Nat.reduceSub, Nat.reduceLeDiff, Nat.zero_add, Option.bind_some, Option.map_some, reduceCtorEq, Int.reduceLT, Int.reduceLE, Int.reduceNeg, Int.reducePow, Int.reduceToNat, and_true, true_and, and_self, ite_true, ite_false, if_true, if_false, Bool.not_true, Bool.not_false, Bool.true_and, Bool.false_and, Bool.and_true, Bool.and_false, Bool.true_or, Bool.false_or, oSub, oNeg, oLt, oLe, oGt, oGe, oIs, oIsNot, Vs.isNon, oTru, oBl, oIx, oLen, oAbs, oIntC, oMax2, oMin2, oTupC, oLstC, oSl, keyD, decide_true, decide_false, plainE, fzE, gIx, List.filterMap_cons, List.filterMap_nil, wipeE, restE, List.all_cons, List.all_nil, List.getD_eq_getElem?_getD, Option.getD_some, oMod_ok, oFdiv_ok, oPow_lit, oMul_lit, oRepr_bl, oEq_str, oNe_str, oEq_int, oNe_int, oEq_bl, oNe_bl, oEq_nil, oNe_nil, oIsi_int, oIsi_bool, oIsi_listed, str_beq, isI, wth, geL, leL]
    · rename_i l
      by_cases hl : l ≤ v
      · cases hi <;> first | exact h2.elim | skip
        · simp only [k_ok, k_exc, kS_ok, kS_exc, kq_next, kq_ret, kq_brk, kq_cont, kq_exc, kq_retF, go_ok, go_exc, go_next, go_ret, go_brk, go_cont, go_excS, go_retF, go_some, go_v, getV_fz, go_c, go_bin, go_bin1, go_bin2, go_un, go_un1, go_tru, go_tru1, go_bl, go_bl1, go_and, go_andT, go_andF, go_or, go_orT, go_orF, go_not, go_not1, go_andV, go_orV, go_andV1, go_orV1, go_andVT, go_andVF, go_orVT, go_orVF, go_notV, go_notV1, go_notV2, go_if, go_ifT, go_ifF, go_nil, go_cons, go_cons1, go_cons2, go_chk, go_lst, go_tup, go_lst1, go_tup1, go_cal, go_cal1, go_isi, go_isi1, go_seq, go_sRet, go_ret1, go_sExpr, go_ex1, go_sIf, go_sifT, go_sifF, go_optS, go_sAsg, go_asg1, go_sSet, go_set1, go_sPar, go_par1, go_sAug, go_augV, kN_eq, kNil_eq, kCons_eq, kT_eq, rdE_eq, rdO_fz, rdO_ol, ownE_eq, owO_ol, go_binL, go_binL1, go_binL2, oSw_eq, go_binR, go_binR1, go_sPut, go_put1, go_putO, go_put2, go_putP, go_putN, go_retF1, go_fLst, go_fl1, go_sOwn, go_own1, go_call, go_call1, kFR_ok, kFR_exc, go_callIo, go_io0, go_io1, go_io2, kIo_ok, kIo_exc, go_callN, go_calln1, go_calln2, go_okF, go_excF, kRun_next, kRun_ret, kRun_exc, finF_none, finF_some, finS_ol, go_finO, go_finX, go_items, go_items_lst, go_items_tup, go_rng1, go_rng1_ok, go_rng2, go_rng2_ok, go_zip, go_zip_l, go_zip_t, go_enum, go_enum_l, go_sFor, go_for1, kLoop_next, kLoop_cont, kLoop_brk, kLoop_ret, kLoop_exc, turn_next, turn_cont, go_lc, go_lc1, kLc_ok, elem_ok, go_yes, go_sl, go_sl1, go_sl2, go_sl3, go_noP, go_p, go_p1, go_rev, go_rev1, go_chain, go_ch1, go_ch2, go_ch3T, go_ch3F, go_ch4, go_dic, go_dic1, go_prs_nil, go_prs, go_prs1, go_prs2, go_prs3, go_prs4, kW_ok, go_fcall, go_fcall1, kRunW_ok, go_okW, go_cf, go_cf1, oAdd_int, oAdd_bl, atI_0, atI_1, atI_2, atI_3, ixN_0, ixN_1, ixN_2, sz_lit, List.getElem?_cons_zero, List.getElem?_cons_succ, List.set_cons_zero, List.set_cons_succ, List.nil_append, List.cons_append, List.append_nil, List.length_cons, List.length_nil, Nat.reduceSub, Nat.reduceLeDiff, Nat.zero_add, Option.bind_some, Option.map_some, reduceCtorEq, Int.reduceLT, Int.reduceLE, Int.reduceNeg, Int.reducePow, Int.reduceToNat, and_true, true_and, and_self, ite_true, ite_false, if_true, if_false, Bool.not_true, Bool.not_false, Bool.true_and, Bool.false_and, Bool.and_true, Bool.and_false, Bool.true_or, Bool.false_or, oSub, oNeg, oLt, oLe, oGt, oGe, oIs, oIsNot, Vs.isNon, oTru, oBl, oIx, oLen, oAbs, oIntC, oMax2, oMin2, oTupC, oLstC, oSl, keyD, decide_true, decide_false, plainE, fzE, gIx, List.filterMap_cons, List.filterMap_nil, wipeE, restE, List.all_cons, List.all_nil, List.getD_eq_getElem?_getD, Option.getD_some, oMod_ok, oFdiv_ok, oPow_lit, oMul_lit, oRepr_bl, oEq_str, oNe_str, oEq_int, oNe_int, oEq_bl, oNe_bl, oEq_nil, oNe_nil, oIsi_int, oIsi_bool, oIsi_listed, str_beq, isI, wth, geL, leL, decide_eq_true hl]
        · simp only [k_ok, k_exc, kS_ok, kS_exc, kq_next, kq_ret, kq_brk, kq_cont, kq_exc, kq_retF, go_ok, go_exc, go_next, go_ret, go_brk, go_cont, go_excS, go_retF, go_some, go_v, getV_fz, go_c, go_bin, go_bin1, go_bin2, go_un, go_un1, go_tru, go_tru1, go_bl, go_bl1, go_and, go_andT, go_andF, go_or, go_orT, go_orF, go_not, go_not1, go_andV, go_orV, go_andV1, go_orV1, go_andVT, go_andVF, go_orVT, go_orVF, go_notV, go_notV1, go_notV2, go_if, go_ifT, go_ifF, go_nil, go_cons, go_cons1, go_cons2, go_chk, go_lst, go_tup, go_lst1, go_tup1, go_cal, go_cal1, go_isi, go_isi1, go_seq, go_sRet, go_ret1, go_sExpr, go_ex1, go_sIf, go_sifT, go_sifF, go_optS, go_sAsg, go_asg1, go_sSet, go_set1, go_sPar, go_par1, go_sAug, go_augV, kN_eq, kNil_eq, kCons_eq, kT_eq, rdE_eq, rdO_fz, rdO_ol, ownE_eq, owO_ol, go_binL, go_binL1, go_binL2, oSw_eq, go_binR, go_binR1, go_sPut, go_put1, go_putO, go_put2, go_putP, go_putN, go_retF1, go_fLst, go_fl1, go_sOwn, go_own1, go_call, go_call1, kFR_ok, kFR_exc, go_callIo, go_io0, go_io1, go_io2, kIo_ok, kIo_exc, go_callN, go_calln1, go_calln2, go_okF, go_excF, kRun_next, kRun_ret, kRun_exc, finF_none, finF_some, finS_ol, go_finO, go_finX, go_items, go_items_lst, go_items_tup, go_rng1, go_rng1_ok, go_rng2, go_rng2_ok, go_zip, go_zip_l, go_zip_t, go_enum, go_enum_l, go_sFor, go_for1, kLoop_next, kLoop_cont, kLoop_brk, kLoop_ret, kLoop_exc, turn_next, turn_cont, go_lc, go_lc1, kLc_ok, elem_ok, go_yes, go_sl, go_sl1, go_sl2, go_sl3, go_noP, go_p, go_p1, go_rev, go_rev1, go_chain, go_ch1, go_ch2, go_ch3T, go_ch3F, go_ch4, go_dic, go_dic1, go_prs_nil, go_prs, go_prs1, go_prs2, go_prs3, go_prs4, kW_ok, go_fcall, go_fcall1, kRunW_ok, go_okW, go_cf, go_cf1, oAdd_int, oAdd_bl, atI_0, atI_1, atI_2, atI_3, ixN_0, ixN_1, ixN_2, sz_lit, List.getElem?_cons_zero, List.getElem?_cons_succ, List.set_cons_zero, List.set_cons_succ, List.nil_append, List.cons_append, List.append_nil, List.length_cons, List.length_nil, Nat.reduceSub, Nat.reduceLeDiff, Nat.zero_add, Option.bind_some, Option.map_some, reduceCtorEq, Int.reduceLT, Int.reduceLE, Int.reduceNeg, Int.reducePow, Int.reduceToNat, and_true, true_and, and_self, ite_true, ite_false, if_true, if_false, Bool.not_true, Bool.not_false, Bool.true_and, Bool.false_and, Bool.and_true, Bool.and_false, Bool.true_or, Bool.false_or, oSub, oNeg, oLt, oLe, oGt, oGe, oIs, oIsNot, Vs.isNon, oTru, oBl, oIx, oLen, oAbs, oIntC, oMax2, oMin2, oTupC, oLstC, oSl, keyD, decide_true, decide_false, plainE, fzE, gIx, List.filterMap_cons, List.filterMap_nil, wipeE, restE, List.all_cons, List.all_nil, List.getD_eq_getElem?_getD, Option.getD_some, oMod_ok, oFdiv_ok, oPow_lit, oMul_lit, oRepr_bl, oEq_str, oNe_str, oEq_int, oNe_int, oEq_bl, oNe_bl, oEq_nil, oNe_nil, oIsi_int, oIsi_bool, oIsi_listed, str_beq, isI, wth, geL, leL, decide_eq_true hl]
      · cases hi <;> first | exact h2.elim | skip
        · simp only [k_ok, k_exc, kS_ok, kS_exc, kq_next, kq_ret, kq_brk, kq_cont, kq_exc, kq_retF, go_ok, go_exc, go_next, go_ret, go_brk, go_cont, go_excS, go_retF, go_some, go_v, getV_fz, go_c, go_bin, go_bin1, go_bin2, go_un, go_un1, go_tru, go_tru1, go_bl, go_bl1, go_and, go_andT, go_andF, go_or, go_orT, go_orF, go_not, go_not1, go_andV, go_orV, go_andV1, go_orV1, go_andVT, go_andVF, go_orVT, go_orVF, go_notV, go_notV1, go_notV2, go_if, go_ifT, go_ifF, go_nil, go_cons, go_cons1, go_cons2, go_chk, go_lst, go_tup, go_lst1, go_tup1, go_cal, go_cal1, go_isi, go_isi1, go_seq, go_sRet, go_ret1, go_sExpr, go_ex1, go_sIf, go_sifT, go_sifF, go_optS, go_sAsg, go_asg1, go_sSet, go_set1, go_sPar, go_par1, go_sAug, go_augV, kN_eq, kNil_eq, kCons_eq, kT_eq, rdE_eq, rdO_fz, rdO_ol, ownE_eq, owO_ol, go_binL, go_binL1, go_binL2, oSw_eq, go_binR, go_binR1, go_sPut, go_put1, go_putO, go_put2, go_putP, go_putN, go_retF1, go_fLst, go_fl1, go_sOwn, go_own1, go_call, go_call1, kFR_ok, kFR_exc, go_callIo, go_io0, go_io1, go_io2, kIo_ok, kIo_exc, go_callN, go_calln1, go_calln2, go_okF, go_excF, kRun_next, kRun_ret, kRun_exc, finF_none, finF_some, finS_ol, go_finO, go_finX, go_items, go_items_lst, go_items_tup, go_rng1, go_rng1_ok, go_rng2, go_rng2_ok, go_zip, go_zip_l, go_zip_t, go_enum, go_enum_l, go_sFor, go_for1, kLoop_next, kLoop_cont, kLoop_brk, kLoop_ret, kLoop_exc, turn_next, turn_cont, go_lc, go_lc1, kLc_ok, elem_ok, go_yes, go_sl, go_sl1, go_sl2, go_sl3, go_noP, go_p, go_p1, go_rev, go_rev1, go_chain, go_ch1, go_ch2, go_ch3T, go_ch3F, go_ch4, go_dic, go_dic1, go_prs_nil, go_prs, go_prs1, go_prs2, go_prs3, go_prs4, kW_ok, go_fcall, go_fcall1, kRunW_ok, go_okW, go_cf, go_cf1, oAdd_int, oAdd_bl, atI_0, atI_1, atI_2, atI_3, ixN_0, ixN_1, ixN_2, sz_lit, List.getElem?_cons_zero, List.getElem?_cons_succ, List.set_cons_zero, List.set_cons_succ, List.nil_append, List.cons_append, List.append_nil, List.length_cons, List.length_nil, Nat.reduceSub, Nat.reduceLeDiff, Nat.zero_add, Option.bind_some, Option.map_some, reduceCtorEq, Int.reduceLT, Int.reduceLE, Int.reduceNeg, Int.reducePow, Int.reduceToNat, and_true, true_and, and_self, ite_true, ite_false, if_true, if_false, Bool.not_true, Bool.not_false, Bool.true_and, Bool.false_and, Bool.and_true, Bool.and_false, Bool.true_or, Bool.false_or, oSub, oNeg, oLt, oLe, oGt, oGe, oIs, oIsNot, Vs.isNon, oTru, oBl, oIx, oLen, oAbs, oIntC, oMax2, oMin2, oTupC, oLstC, oSl, keyD, decide_true, decide_false, plainE, fzE, gIx, List.filterMap_cons, List.filterMap_nil, wipeE, restE, List.all_cons, List.all_nil, List.getD_eq_getElem?_getD, Option.getD_some, oMod_ok, oFdiv_ok, oPow_lit, oMul_lit, oRepr_bl, oEq_str, oNe_str, oEq_int, oNe_int, oEq_bl, oNe_bl, oEq_nil, oNe_nil, oIsi_int, oIsi_bool, oIsi_listed, str_beq, isI, wth, geL, leL, decide_eq_false hl]
        · simp only [k_ok, k_exc, kS_ok, kS_exc, kq_next, kq_ret, kq_brk, kq_cont, kq_exc, kq_retF, go_ok, go_exc, go_next, go_ret, go_brk, go_cont, go_excS, go_retF, go_some, go_v, getV_fz, go_c, go_bin, go_bin1, go_bin2, go_un, go_un1, go_tru, go_tru1, go_bl, go_bl1, go_and, go_andT, go_andF, go_or, go_orT, go_orF, go_not, go_not1, go_andV, go_orV, go_andV1, go_orV1, go_andVT, go_andVF, go_orVT, go_orVF, go_notV, go_notV1, go_notV2, go_if, go_ifT, go_ifF, go_nil, go_cons, go_cons1, go_cons2, go_chk, go_lst, go_tup, go_lst1, go_tup1, go_cal, go_cal1, go_isi, go_isi1, go_seq, go_sRet, go_ret1, go_sExpr, go_ex1, go_sIf, go_sifT, go_sifF, go_optS, go_sAsg, go_asg1, go_sSet, go_set1, go_sPar, go_par1, go_sAug, go_augV, kN_eq, kNil_eq, kCons_eq, kT_eq, rdE_eq, rdO_fz, rdO_ol, ownE_eq, owO_ol, go_binL, go_binL1, go_binL2, oSw_eq, go_binR, go_binR1, go_sPut, go_put1, go_putO, go_put2, go_putP, go_putN, go_retF1, go_fLst, go_fl1, go_sOwn, go_own1, go_call, go_call1, kFR_ok, kFR_exc, go_callIo, go_io0, go_io1, go_io2, kIo_ok, kIo_exc, go_callN, go_calln1, go_calln2, go_okF, go_excF, kRun_next, kRun_ret, kRun_exc, finF_none, finF_some, finS_ol, go_finO, go_finX, go_items, go_items_lst, go_items_tup, go_rng1, go_rng1_ok, go_rng2, go_rng2_ok, go_zip, go_zip_l, go_zip_t, go_enum, go_enum_l, go_sFor, go_for1, kLoop_next, kLoop_cont, kLoop_brk, kLoop_ret, kLoop_exc, turn_next, turn_cont, go_lc, go_lc1, kLc_ok, elem_ok, go_yes, go_sl, go_sl1, go_sl2, go_sl3, go_noP, go_p, go_p1, go_rev, go_rev1, go_chain, go_ch1, go_ch2, go_ch3T, go_ch3F, go_ch4, go_dic, go_dic1, go_prs_nil, go_prs, go_prs1, go_prs2, go_prs3, go_prs4, kW_ok, go_fcall, go_fcall1, kRunW_ok, go_okW, go_cf, go_cf1, oAdd_int, oAdd_bl, atI_0, atI_1, atI_2, atI_3, ixN_0, ixN_1, ixN_2, sz_lit, List.getElem?_cons_zero, List.getElem?_cons_succ, List.set_cons_zero, List.set_cons_succ, List.nil_append, List.cons_append, List.append_nil, List.length_cons, List.length_nil, Nat.reduceSub, Nat.reduceLeDiff, Nat.zero_add, Option.bind_some, Option.map_some, reduceCtorEq, Int.reduceLT, Int.reduceLE, Int.reduceNeg, Int.reducePow, Int.reduceToNat, and_true, true_and, and_self, ite_true, ite_false, if_true, if_false, Bool.not_true, Bool.not_false, Bool.true_and, Bool.false_and, Bool.and_true, Bool.and_false, Bool.true_or, Bool.false_or, oSub, oNeg, oLt, oLe, oGt, oGe, oIs, oIsNot, Vs.isNon, oTru, oBl, oIx, oLen, oAbs, oIntC, oMax2, oMin2, oTupC, oLstC, oSl, keyD, decide_true, decide_false, plainE, fzE, gIx, List.filterMap_cons, List.filterMap_nil, wipeE, restE, List.all_cons, List.all_nil, List.getD_eq_getElem?_getD, Option.getD_some, oMod_ok, oFdiv_ok, oPow_lit, oMul_lit, oRepr_bl, oEq_str, oNe_str, oEq_int, oNe_int, oEq_bl, oNe_bl, oEq_nil, oNe_nil, oIsi_int, oIsi_bool, oIsi_listed, str_beq, isI, wth, geL, leL, decide_eq_false hl]
  | _ => simp only [k_ok, k_exc, kS_ok, kS_exc, kq_next, kq_ret, kq_brk, kq_cont, kq_exc, kq_retF, go_ok, go_exc, go_next, go_ret, go_brk, go_cont, go_excS, go_retF, go_some, go_v, getV_fz, go_c, go_bin, go_bin1, go_bin2, go_un, go_un1, go_tru, go_tru1, go_bl, go_bl1, go_and, go_andT, go_andF, go_or, go_orT, go_orF, go_not, go_not1, go_andV, go_orV, go_andV1, go_orV1, go_andVT, go_andVF, go_orVT, go_orVF, go_notV, go_notV1, go_notV2, go_if, go_ifT, go_ifF, go_nil, go_cons, go_cons1, go_cons2, go_chk, go_lst, go_tup, go_lst1, go_tup1, go_cal, go_cal1, go_isi, go_isi1, go_seq, go_sRet, go_ret1, go_sExpr, go_ex1, go_sIf, go_sifT, go_sifF, go_optS, go_sAsg, go_asg1, go_sSet, go_set1, go_sPar, go_par1, go_sAug, go_augV, kN_eq, kNil_eq, kCons_eq, kT_eq, rdE_eq, rdO_fz, rdO_ol, ownE_eq, owO_ol, go_binL, go_binL1, go_binL2, oSw_eq, go_binR, go_binR1, go_sPut, go_put1, go_putO, go_put2, go_putP, go_putN, go_retF1, go_fLst, go_fl1, go_sOwn, go_own1, go_call, go_call1, kFR_ok, kFR_exc, go_callIo, go_io0, go_io1, go_io2, kIo_ok, kIo_exc, go_callN, go_calln1, go_calln2, go_okF, go_excF, kRun_next, kRun_ret, kRun_exc, finF_none, finF_some, finS_ol, go_finO, go_finX, go_items, go_items_lst, go_items_tup, go_rng1, go_rng1_ok, go_rng2, go_rng2_ok, go_zip, go_zip_l, go_zip_t, go_enum, go_enum_l, go_sFor, go_for1, kLoop_next, kLoop_cont, kLoop_brk, kLoop_ret, kLoop_exc, turn_next, turn_cont, go_lc, go_lc1, kLc_ok, elem_ok, go_yes, go_sl, go_sl1, go_sl2, go_sl3, go_noP, go_p, go_p1, go_rev, go_rev1, go_chain, go_ch1, go_ch2, go_ch3T, go_ch3F, go_ch4, go_dic, go_dic1, go_prs_nil, go_prs, go_prs1, go_prs2, go_prs3, go_prs4, kW_ok, go_fcall, go_fcall1, kRunW_ok, go_okW, go_cf, go_cf1, oAdd_int, oAdd_bl, atI_0, atI_1, atI_2, atI_3, ixN_0, ixN_1, ixN_2, sz_lit, List.getElem?_cons_zero, List.getElem?_cons_succ, List.set_cons_zero, List.set_cons_succ, List.nil_append, List.cons_append, List.append_nil, List.length_cons, List.length_nil, Nat.reduceSub, Nat.reduceLeDiff, Nat.zero_add, Option.bind_some, Option.map_some, reduceCtorEq, Int.reduceLT, Int.reduceLE, Int.reduceNeg, Int.reducePow, Int.reduceToNat, and_true, true_and, and_self, ite_true, ite_false, if_true, if_false, Bool.not_true, Bool.not_false, Bool.true_and, Bool.false_and, Bool.and_true, Bool.and_false, Bool.true_or, Bool.false_or, oSub, oNeg, oLt, oLe, oGt, oGe, oIs, oIsNot, Vs.isNon, oTru, oBl, oIx, oLen, oAbs, oIntC, oMax2, oMin2, oTupC, oLstC, oSl, keyD, decide_true, decide_false, plainE, fzE, gIx, List.filterMap_cons, List.filterMap_nil, wipeE, restE, List.all_cons, List.all_nil, List.getD_eq_getElem?_getD, Option.getD_some, oMod_ok, oFdiv_ok, oPow_lit, oMul_lit, oRepr_bl, oEq_str, oNe_str, oEq_int, oNe_int, oEq_bl, oNe_bl, oEq_nil, oNe_nil, oIsi_int, oIsi_bool, oIsi_listed, str_beq, isI, wth])
def rowD (d : D) (k : Int) (lo hi : D) : Bool := match d with
  | .lst xs => decide ((xs.length : Int) = k) && xs.all (wth · lo hi)
  | .tup xs => decide ((xs.length : Int) = k) && xs.all (wth · lo hi)
  | _ => false
/-- a value that the calls may get: no script, no longer than a line -/
def Fine : D → Prop
  | .lst xs => xs.length ≤ 1000
  | .tup xs => xs.length ≤ 1000
  | .scr _ => False
  | _ => True
theorem small_sz {n : Nat} (h : n ≤ 1000) : n ≤ sizeLine := Nat.le_trans h (by decide)
theorem v_is_row (d : D) (k : Int) (lo hi : D) (h1 : Lim lo) (h2 : Lim hi) (hd : Fine d) : F_is_row none [d, .int k, lo, hi] = .ok (.bl (rowD d k lo hi)) none := of_go (by
  rw [run_is_row]; unfold b_is_row
  simp only [k_ok, k_exc, kS_ok, kS_exc, kq_next, kq_ret, kq_brk, kq_cont, kq_exc, kq_retF, go_ok, go_exc, go_next, go_ret, go_brk, go_cont, go_excS, go_retF, go_some, go_v, getV_fz, go_c, go_bin, go_bin1, go_bin2, go_un, go_un1, go_tru, go_tru1, go_bl, go_bl1, go_and, go_andT, go_andF, go_or, go_orT, go_orF, go_not, go_not1, go_andV, go_orV, go_andV1, go_orV1, go_andVT, go_andVF, go_orVT, go_orVF, go_notV, go_notV1, go_notV2, go_if, go_ifT, go_ifF, go_nil, go_cons, go_cons1, go_cons2, go_chk, go_lst, go_tup, go_lst1, go_tup1, go_cal, go_cal1, go_isi, go_isi1, go_seq, go_sRet, go_ret1, go_sExpr, go_ex1, go_sIf, go_sifT, go_sifF, go_optS, go_sAsg, go_asg1, go_sSet, go_set1, go_sPar, go_par1, go_sAug, go_augV, kN_eq, kNil_eq, kCons_eq, kT_eq, rdE_eq, rdO_fz, rdO_ol, ownE_eq, owO_ol, go_binL, go_binL1, go_binL2, oSw_eq, go_binR, go_binR1, go_sPut, go_put1, go_putO, go_put2, go_putP, go_putN, go_retF1, go_fLst, go_fl1, go_sOwn, go_own1, go_call, go_call1, kFR_ok, kFR_exc, go_callIo, go_io0, go_io1, go_io2, kIo_ok, kIo_exc, go_callN, go_calln1, go_calln2, go_okF, go_excF, kRun_next, kRun_ret, kRun_exc, finF_none, finF_some, finS_ol, go_finO, go_finX, go_items, go_items_lst, go_items_tup, go_rng1, go_rng1_ok, go_rng2, go_rng2_ok, go_zip, go_zip_l, go_zip_t, go_enum, go_enum_l, go_sFor, go_for1, kLoop_next, kLoop_cont, kLoop_brk, kLoop_ret, kLoop_exc, turn_next, turn_cont, go_lc, go_lc1, kLc_ok, elem_ok, go_yes, go_sl, go_sl1, go_sl2, go_sl3, go_noP, go_p, go_p1, go_rev, go_rev1, go_chain, go_ch1, go_ch2, go_ch3T, go_ch3F, go_ch4, go_dic, go_dic1, go_prs_nil, go_prs, go_prs1, go_prs2, go_prs3, go_prs4, kW_ok, go_fcall, go_fcall1, kRunW_ok, go_okW, go_cf, go_cf1, oAdd_int, oAdd_bl, atI_0, atI_1, atI_2, atI_3, ixN_0, ixN_1, ixN_2, sz_lit, List.getElem?_cons_zero, List.getElem?_cons_succ, List.set_cons_zero, List.set_cons_succ, List.nil_append, List.cons_append, List.append_nil, List.length_cons, List.length_nil, Nat.reduceSub, Nat.reduceLeDiff, Nat.zero_add, Option.bind_some, Option.map_some, reduceCtorEq, Int.reduceLT, Int.reduceLE, Int.reduceNeg, Int.reducePow, Int.reduceToNat, and_true, true_and, and_self, ite_true, ite_false, if_true, if_false, Bool.not_true, Bool.not_false, Bool.true_and, Bool.false_and, Bool.and_true, Bool.and_false, Bool.true_or, Bool.false_or, oSub, oNeg, oLt, oLe, oGt, oGe, oIs, oIsNot, Vs.isNon, oTru, oBl, oIx, oLen, oAbs, oIntC, oMax2, oMin2, oTupC, oLstC, oSl, keyD, decide_true, decide_false, plainE, fzE, gIx, List.filterMap_cons, List.filterMap_nil, wipeE, restE, List.all_cons, List.all_nil, List.getD_eq_getElem?_getD, Option.getD_some, oMod_ok, oFdiv_ok, oPow_lit, oMul_lit, oRepr_bl, oEq_str, oNe_str, oEq_int, oNe_int, oEq_bl, oNe_bl, oEq_nil, oNe_nil, oIsi_int, oIsi_bool, oIsi_listed, str_beq, v_is_listed]
  cases d with
  | lst xs =>
    simp only [k_ok, k_exc, kS_ok, kS_exc, kq_next, kq_ret, kq_brk, kq_cont, kq_exc, kq_retF, go_ok, go_exc, go_next, go_ret, go_brk, go_cont, go_excS, go_retF, go_some, go_v, getV_fz, go_c, go_bin, go_bin1, go_bin2, go_un, go_un1, go_tru, go_tru1, go_bl, go_bl1, go_and, go_andT, go_andF, go_or, go_orT, go_orF, go_not, go_not1, go_andV, go_orV, go_andV1, go_orV1, go_andVT, go_andVF, go_orVT, go_orVF, go_notV, go_notV1, go_notV2, go_if, go_ifT, go_ifF, go_nil, go_cons, go_cons1, go_cons2, go_chk, go_lst, go_tup, go_lst1, go_tup1, go_cal, go_cal1, go_isi, go_isi1, go_seq, go_sRet, go_ret1, go_sExpr, go_ex1, go_sIf, go_sifT, go_sifF, go_optS, go_sAsg, go_asg1, go_sSet, go_set1, go_sPar, go_par1, go_sAug, go_augV, kN_eq, kNil_eq, kCons_eq, kT_eq, rdE_eq, rdO_fz, rdO_ol, ownE_eq, owO_ol, go_binL, go_binL1, go_binL2, oSw_eq, go_binR, go_binR1, go_sPut, go_put1, go_putO, go_put2, go_putP, go_putN, go_retF1, go_fLst, go_fl1, go_sOwn, go_own1, go_call, go_call1, kFR_ok, kFR_exc, go_callIo, go_io0, go_io1, go_io2, kIo_ok, kIo_exc, go_callN, go_calln1, go_calln2, go_okF, go_excF, kRun_next, kRun_ret, kRun_exc, finF_none, finF_some, finS_ol, go_finO, go_finX, go_items, go_items_lst, go_items_tup, go_rng1, go_rng1_ok, go_rng2, go_rng2_ok, go_zip, go_zip_l, go_zip_t, go_enum, go_enum_l, go_sFor, go_for1, kLoop_next, kLoop_cont, kLoop_brk, kLoop_ret, kLoop_exc, turn_next, turn_cont, go_lc, go_lc1, kLc_ok, elem_ok, go_yes, go_sl, go_sl1, go_sl2, go_sl3, go_noP, go_p, go_p1, go_rev, go_rev1, go_chain, go_ch1, go_ch2, go_ch3T, go_ch3F, go_ch4, go_dic, go_dic1, go_prs_nil, go_prs, go_prs1, go_prs2, go_prs3, go_prs4, kW_ok, go_fcall, go_fcall1, kRunW_ok, go_okW, go_cf, go_cf1, oAdd_int, oAdd_bl, atI_0, atI_1, atI_2, atI_3, ixN_0, ixN_1, ixN_2, sz_lit, List.getElem?_cons_zero, List.getElem?_cons_succ, List.set_cons_zero, List.set_cons_succ, List.nil_append, List.cons_append, List.append_nil, List.length_cons, List.length_nil, Nat.reduceSub, Nat.reduceLeDiff, Nat.zero_add, Option.bind_some, Option.map_some, reduceCtorEq, Int.reduceLT, Int.reduceLE, Int.reduceNeg, Int.reducePow, Int.reduceToNat, and_true, true_and, and_self, ite_true, ite_false, if_true, if_false, Bool.not_true, Bool.not_false, Bool.true_and, Bool.false_and, Bool.and_true, Bool.and_false, Bool.true_or, Bool.false_or, oSub, oNeg, oLt, oLe, oGt, oGe, oIs, oIsNot, Vs.isNon, oTru, oBl, oIx, oLen, oAbs, oIntC, oMax2, oMin2, oTupC, oLstC, oSl, keyD, decide_true, decide_false, plainE, fzE, gIx, List.filterMap_cons, List.filterMap_nil, wipeE, restE, List.all_cons, List.all_nil, List.getD_eq_getElem?_getD, Option.getD_some, oMod_ok, oFdiv_ok, oPow_lit, oMul_lit, oRepr_bl, oEq_str, oNe_str, oEq_int, oNe_int, oEq_bl, oNe_bl, oEq_nil, oNe_nil, oIsi_int, oIsi_bool, oIsi_listed, str_beq, isL]
    by_cases hk : (xs.length : Int) = k
    · simp only [decide_eq_true hk, k_ok, k_exc, kS_ok, kS_exc, kq_next, kq_ret, kq_brk, kq_cont, kq_exc, kq_retF, go_ok, go_exc, go_next, go_ret, go_brk, go_cont, go_excS, go_retF, go_some, go_v, getV_fz, go_c, go_bin, go_bin1, go_bin2, go_un, go_un1, go_tru, go_tru1, go_bl, go_bl1, go_and, go_andT, go_andF, go_or, go_orT, go_orF, go_not, go_not1, go_andV, go_orV, go_andV1, go_orV1, go_andVT, go_andVF, go_orVT, go_orVF, go_notV, go_notV1, go_notV2, go_if, go_ifT, go_ifF, go_nil, go_cons, go_cons1, go_cons2, go_chk, go_lst, go_tup, go_lst1, go_tup1, go_cal, go_cal1, go_isi, go_isi1, go_seq, go_sRet, go_ret1, go_sExpr, go_ex1, go_sIf, go_sifT, go_sifF, go_optS, go_sAsg, go_asg1, go_sSet, go_set1, go_sPar, go_par1, go_sAug, go_augV, kN_eq, kNil_eq, kCons_eq, kT_eq, rdE_eq, rdO_fz, rdO_ol, ownE_eq, owO_ol, go_binL, go_binL1, go_binL2, oSw_eq, go_binR, go_binR1, go_sPut, go_put1, go_putO, go_put2, go_putP, go_putN, go_retF1, go_fLst, go_fl1, go_sOwn, go_own1, go_call, go_call1, kFR_ok, kFR_exc, go_callIo, go_io0, go_io1, go_io2, kIo_ok, kIo_exc, go_callN, go_calln1, go_calln2, go_okF, go_excF, kRun_next, kRun_ret, kRun_exc, finF_none, finF_some, finS_ol, go_finO, go_finX, go_items, go_items_lst, go_items_tup, go_rng1, go_rng1_ok, go_rng2, go_rng2_ok, go_zip, go_zip_l, go_zip_t, go_enum, go_enum_l, go_sFor, go_for1, kLoop_next, kLoop_cont, kLoop_brk, kLoop_ret, kLoop_exc, turn_next, turn_cont, go_lc, go_lc1, kLc_ok, elem_ok, go_yes, go_sl, go_sl1, go_sl2, go_sl3, go_noP, go_p, go_p1, go_rev, go_rev1, go_chain, go_ch1, go_ch2, go_ch3T, go_ch3F, go_ch4, go_dic, go_dic1, go_prs_nil, go_prs, go_prs1, go_prs2, go_prs3, go_prs4, kW_ok, go_fcall, go_fcall1, kRunW_ok, go_okW, go_cf, go_cf1, oAdd_int, oAdd_bl, atI_0, atI_1, atI_2, atI_3, ixN_0, ixN_1, ixN_2, sz_lit, List.getElem?_cons_zero, List.getElem?_cons_succ, List.set_cons_zero, List.set_cons_succ, List.nil_append, List.cons_append, List.append_nil, List.length_cons, List.length_nil, Nat.reduceSub, Nat.reduceLeDiff, Nat.zero_add, Option.bind_some, Option.map_some, reduceCtorEq, Int.reduceLT, Int.reduceLE, Int.reduceNeg, Int.reducePow, Int.reduceToNat, and_true, true_and, and_self, ite_true, ite_false, if_true, if_false, Bool.not_true, Bool.not_false, Bool.true_and, Bool.false_and, Bool.and_true, Bool.and_false, Bool.true_or, Bool.false_or, oSub, oNeg, oLt, oLe, oGt, oGe, oIs, oIsNot, Vs.isNon, oTru, oBl, oIx, oLen, oAbs, oIntC, oMax2, oMin2, oTupC, oLstC, oSl, keyD, decide_true, decide_false, plainE, fzE, gIx, List.filterMap_cons, List.filterMap_nil, wipeE, restE, List.all_cons, List.all_nil, List.getD_eq_getElem?_getD, Option.getD_some, oMod_ok, oFdiv_ok, oPow_lit, oMul_lit, oRepr_bl, oEq_str, oNe_str, oEq_int, oNe_int, oEq_bl, oNe_bl, oEq_nil, oNe_nil, oIsi_int, oIsi_bool, oIsi_listed, str_beq]
      rw [go_of (loopC_map (fun d => .bl (wth d lo hi)) [some (.fz (.lst xs)), some (.fz (.int k)), some (.fz lo), some (.fz hi), none] xs rfl fun d hd => of_go (by
        simp only [k_ok, k_exc, kS_ok, kS_exc, kq_next, kq_ret, kq_brk, kq_cont, kq_exc, kq_retF, go_ok, go_exc, go_next, go_ret, go_brk, go_cont, go_excS, go_retF, go_some, go_v, getV_fz, go_c, go_bin, go_bin1, go_bin2, go_un, go_un1, go_tru, go_tru1, go_bl, go_bl1, go_and, go_andT, go_andF, go_or, go_orT, go_orF, go_not, go_not1, go_andV, go_orV, go_andV1, go_orV1, go_andVT, go_andVF, go_orVT, go_orVF, go_notV, go_notV1, go_notV2, go_if, go_ifT, go_ifF, go_nil, go_cons, go_cons1, go_cons2, go_chk, go_lst, go_tup, go_lst1, go_tup1, go_cal, go_cal1, go_isi, go_isi1, go_seq, go_sRet, go_ret1, go_sExpr, go_ex1, go_sIf, go_sifT, go_sifF, go_optS, go_sAsg, go_asg1, go_sSet, go_set1, go_sPar, go_par1, go_sAug, go_augV, kN_eq, kNil_eq, kCons_eq, kT_eq, rdE_eq, rdO_fz, rdO_ol, ownE_eq, owO_ol, go_binL, go_binL1, go_binL2, oSw_eq, go_binR, go_binR1, go_sPut, go_put1, go_putO, go_put2, go_putP, go_putN, go_retF1, go_fLst, go_fl1, go_sOwn, go_own1, go_call, go_call1, kFR_ok, kFR_exc, go_callIo, go_io0, go_io1, go_io2, kIo_ok, kIo_exc, go_callN, go_calln1, go_calln2, go_okF, go_excF, kRun_next, kRun_ret, kRun_exc, finF_none, finF_some, finS_ol, go_finO, go_finX, go_items, go_items_lst, go_items_tup, go_rng1, go_rng1_ok, go_rng2, go_rng2_ok, go_zip, go_zip_l, go_zip_t, go_enum, go_enum_l, go_sFor, go_for1, kLoop_next, kLoop_cont, kLoop_brk, kLoop_ret, kLoop_exc, turn_next, turn_cont, go_lc, go_lc1, kLc_ok, elem_ok, go_yes, go_sl, go_sl1, go_sl2, go_sl3, go_noP, go_p, go_p1, go_rev, go_rev1, go_chain, go_ch1, go_ch2, go_ch3T, go_ch3F, go_ch4, go_dic, go_dic1, go_prs_nil, go_prs, go_prs1, go_prs2, go_prs3, go_prs4, kW_ok, go_fcall, go_fcall1, kRunW_ok, go_okW, go_cf, go_cf1, oAdd_int, oAdd_bl, atI_0, atI_1, atI_2, atI_3, ixN_0, ixN_1, ixN_2, sz_lit, List.getElem?_cons_zero, List.getElem?_cons_succ, List.set_cons_zero, List.set_cons_succ, List.nil_append, List.cons_append, List.append_nil, List.length_cons, List.length_nil, Nat.reduceSub, Nat.reduceLeDiff, Nat.zero_add, Option.bind_some, Option.map_some, reduceCtorEq, Int.reduceLT, Int.reduceLE, Int.reduceNeg, Int.reducePow, Int.reduceToNat, and_true, true_and, and_self, ite_true, ite_false, if_true, if_false, Bool.not_true, Bool.not_false, Bool.true_and, Bool.false_and, Bool.and_true, Bool.and_false, Bool.true_or, Bool.false_or, oSub, oNeg, oLt, oLe, oGt, oGe, oIs, oIsNot, Vs.isNon, oTru, oBl, oIx, oLen, oAbs, oIntC, oMax2, oMin2, oTupC, oLstC, oSl, keyD, decide_true, decide_false, plainE, fzE, gIx, List.filterMap_cons, List.filterMap_nil, wipeE, restE, List.all_cons, List.all_nil, List.getD_eq_getElem?_getD, Option.getD_some, oMod_ok, oFdiv_ok, oPow_lit, oMul_lit, oRepr_bl, oEq_str, oNe_str, oEq_int, oNe_int, oEq_bl, oNe_bl, oEq_nil, oNe_nil, oIsi_int, oIsi_bool, oIsi_listed, str_beq, v_is_within _ _ _ h1 h2]))]
      rw [kLc_ok (by rw [List.length_map]; exact small_sz hd)]
      simp only [k_ok, k_exc, kS_ok, kS_exc, kq_next, kq_ret, kq_brk, kq_cont, kq_exc, kq_retF, go_ok, go_exc, go_next, go_ret, go_brk, go_cont, go_excS, go_retF, go_some, go_v, getV_fz, go_c, go_bin, go_bin1, go_bin2, go_un, go_un1, go_tru, go_tru1, go_bl, go_bl1, go_and, go_andT, go_andF, go_or, go_orT, go_orF, go_not, go_not1, go_andV, go_orV, go_andV1, go_orV1, go_andVT, go_andVF, go_orVT, go_orVF, go_notV, go_notV1, go_notV2, go_if, go_ifT, go_ifF, go_nil, go_cons, go_cons1, go_cons2, go_chk, go_lst, go_tup, go_lst1, go_tup1, go_cal, go_cal1, go_isi, go_isi1, go_seq, go_sRet, go_ret1, go_sExpr, go_ex1, go_sIf, go_sifT, go_sifF, go_optS, go_sAsg, go_asg1, go_sSet, go_set1, go_sPar, go_par1, go_sAug, go_augV, kN_eq, kNil_eq, kCons_eq, kT_eq, rdE_eq, rdO_fz, rdO_ol, ownE_eq, owO_ol, go_binL, go_binL1, go_binL2, oSw_eq, go_binR, go_binR1, go_sPut, go_put1, go_putO, go_put2, go_putP, go_putN, go_retF1, go_fLst, go_fl1, go_sOwn, go_own1, go_call, go_call1, kFR_ok, kFR_exc, go_callIo, go_io0, go_io1, go_io2, kIo_ok, kIo_exc, go_callN, go_calln1, go_calln2, go_okF, go_excF, kRun_next, kRun_ret, kRun_exc, finF_none, finF_some, finS_ol, go_finO, go_finX, go_items, go_items_lst, go_items_tup, go_rng1, go_rng1_ok, go_rng2, go_rng2_ok, go_zip, go_zip_l, go_zip_t, go_enum, go_enum_l, go_sFor, go_for1, kLoop_next, kLoop_cont, kLoop_brk, kLoop_ret, kLoop_exc, turn_next, turn_cont, go_lc, go_lc1, kLc_ok, elem_ok, go_yes, go_sl, go_sl1, go_sl2, go_sl3, go_noP, go_p, go_p1, go_rev, go_rev1, go_chain, go_ch1, go_ch2, go_ch3T, go_ch3F, go_ch4, go_dic, go_dic1, go_prs_nil, go_prs, go_prs1, go_prs2, go_prs3, go_prs4, kW_ok, go_fcall, go_fcall1, kRunW_ok, go_okW, go_cf, go_cf1, oAdd_int, oAdd_bl, atI_0, atI_1, atI_2, atI_3, ixN_0, ixN_1, ixN_2, sz_lit, List.getElem?_cons_zero, List.getElem?_cons_succ, List.set_cons_zero, List.set_cons_succ, List.nil_append, List.cons_append, List.append_nil, List.length_cons, List.length_nil, Nat.reduceSub, Nat.reduceLeDiff, Nat.zero_add, Option.bind_some, Option.map_some, reduceCtorEq, Int.reduceLT, Int.reduceLE, Int.reduceNeg, Int.reducePow, Int.reduceToNat, and_true, true_and, and_self, ite_true, ite_false, if_true, if_false, Bool.not_true, Bool.not_false, Bool.true_and, Bool.false_and, Bool.and_true, Bool.and_false, Bool.true_or, Bool.false_or, oSub, oNeg, oLt, oLe, oGt, oGe, oIs, oIsNot, Vs.isNon, oTru, oBl, oIx, oLen, oAbs, oIntC, oMax2, oMin2, oTupC, oLstC, oSl, keyD, decide_true, decide_false, plainE, fzE, gIx, List.filterMap_cons, List.filterMap_nil, wipeE, restE, List.all_cons, List.all_nil, List.getD_eq_getElem?_getD, Option.getD_some, oMod_ok, oFdiv_ok, oPow_lit, oMul_lit, oRepr_bl, oEq_str, oNe_str, oEq_int, oNe_int, oEq_bl, oNe_bl, oEq_nil, oNe_nil, oIsi_int, oIsi_bool, oIsi_listed, str_beq, oAll_map, rowD, decide_eq_true hk]
    · simp only [decide_eq_false hk, k_ok, k_exc, kS_ok, kS_exc, kq_next, kq_ret, kq_brk, kq_cont, kq_exc, kq_retF, go_ok, go_exc, go_next, go_ret, go_brk, go_cont, go_excS, go_retF, go_some, go_v, getV_fz, go_c, go_bin, go_bin1, go_bin2, go_un, go_un1, go_tru, go_tru1, go_bl, go_bl1, go_and, go_andT, go_andF, go_or, go_orT, go_orF, go_not, go_not1, go_andV, go_orV, go_andV1, go_orV1, go_andVT, go_andVF, go_orVT, go_orVF, go_notV, go_notV1, go_notV2, go_if, go_ifT, go_ifF, go_nil, go_cons, go_cons1, go_cons2, go_chk, go_lst, go_tup, go_lst1, go_tup1, go_cal, go_cal1, go_isi, go_isi1, go_seq, go_sRet, go_ret1, go_sExpr, go_ex1, go_sIf, go_sifT, go_sifF, go_optS, go_sAsg, go_asg1, go_sSet, go_set1, go_sPar, go_par1, go_sAug, go_augV, kN_eq, kNil_eq, kCons_eq, kT_eq, rdE_eq, rdO_fz, rdO_ol, ownE_eq, owO_ol, go_binL, go_binL1, go_binL2, oSw_eq, go_binR, go_binR1, go_sPut, go_put1, go_putO, go_put2, go_putP, go_putN, go_retF1, go_fLst, go_fl1, go_sOwn, go_own1, go_call, go_call1, kFR_ok, kFR_exc, go_callIo, go_io0, go_io1, go_io2, kIo_ok, kIo_exc, go_callN, go_calln1, go_calln2, go_okF, go_excF, kRun_next, kRun_ret, kRun_exc, finF_none, finF_some, finS_ol, go_finO, go_finX, go_items, go_items_lst, go_items_tup, go_rng1, go_rng1_ok, go_rng2, go_rng2_ok, go_zip, go_zip_l, go_zip_t, go_enum, go_enum_l, go_sFor, go_for1, kLoop_next, kLoop_cont, kLoop_brk, kLoop_ret, kLoop_exc, turn_next, turn_cont, go_lc, go_lc1, kLc_ok, elem_ok, go_yes, go_sl, go_sl1, go_sl2, go_sl3, go_noP, go_p, go_p1, go_rev, go_rev1, go_chain, go_ch1, go_ch2, go_ch3T, go_ch3F, go_ch4, go_dic, go_dic1, go_prs_nil, go_prs, go_prs1, go_prs2, go_prs3, go_prs4, kW_ok, go_fcall, go_fcall1, kRunW_ok, go_okW, go_cf, go_cf1, oAdd_int, oAdd_bl, atI_0, atI_1, atI_2, atI_3, ixN_0, ixN_1, ixN_2, sz_lit, List.getElem?_cons_zero, List.getElem?_cons_succ, List.set_cons_zero, List.set_cons_succ, List.nil_append, List.cons_append, List.append_nil, List.length_cons, List.length_nil, Nat.reduceSub, Nat.reduceLeDiff, Nat.zero_add, Option.bind_some, Option.map_some, reduceCtorEq, Int.reduceLT, Int.reduceLE, Int.reduceNeg, Int.reducePow, Int.reduceToNat, and_true, true_and, and_self, ite_true, ite_false, if_true, if_false, Bool.not_true, Bool.not_false, Bool.true_and, Bool.false_and, Bool.and_true, Bool.and_false, Bool.true_or, Bool.false_or, oSub, oNeg, oLt, oLe, oGt, oGe, oIs, oIsNot, Vs.isNon, oTru, oBl, oIx, oLen, oAbs, oIntC, oMax2, oMin2, oTupC, oLstC, oSl, keyD, decide_true, decide_false, plainE, fzE, gIx, List.filterMap_cons, List.filterMap_nil, wipeE, restE, List.all_cons, List.all_nil, List.getD_eq_getElem?_getD, Option.getD_some, oMod_ok, oFdiv_ok, oPow_lit, oMul_lit, oRepr_bl, oEq_str, oNe_str, oEq_int, oNe_int, oEq_bl, oNe_bl, oEq_nil, oNe_nil, oIsi_int, oIsi_bool, oIsi_listed, str_beq, rowD]
  | tup xs =>
    simp only [k_ok, k_exc, kS_ok, kS_exc, kq_next, kq_ret, kq_brk, kq_cont, kq_exc, kq_retF, go_ok, go_exc, go_next, go_ret, go_brk, go_cont, go_excS, go_retF, go_some, go_v, getV_fz, go_c, go_bin, go_bin1, go_bin2, go_un, go_un1, go_tru, go_tru1, go_bl, go_bl1, go_and, go_andT, go_andF, go_or, go_orT, go_orF, go_not, go_not1, go_andV, go_orV, go_andV1, go_orV1, go_andVT, go_andVF, go_orVT, go_orVF, go_notV, go_notV1, go_notV2, go_if, go_ifT, go_ifF, go_nil, go_cons, go_cons1, go_cons2, go_chk, go_lst, go_tup, go_lst1, go_tup1, go_cal, go_cal1, go_isi, go_isi1, go_seq, go_sRet, go_ret1, go_sExpr, go_ex1, go_sIf, go_sifT, go_sifF, go_optS, go_sAsg, go_asg1, go_sSet, go_set1, go_sPar, go_par1, go_sAug, go_augV, kN_eq, kNil_eq, kCons_eq, kT_eq, rdE_eq, rdO_fz, rdO_ol, ownE_eq, owO_ol, go_binL, go_binL1, go_binL2, oSw_eq, go_binR, go_binR1, go_sPut, go_put1, go_putO, go_put2, go_putP, go_putN, go_retF1, go_fLst, go_fl1, go_sOwn, go_own1, go_call, go_call1, kFR_ok, kFR_exc, go_callIo, go_io0, go_io1, go_io2, kIo_ok, kIo_exc, go_callN, go_calln1, go_calln2, go_okF, go_excF, kRun_next, kRun_ret, kRun_exc, finF_none, finF_some, finS_ol, go_finO, go_finX, go_items, go_items_lst, go_items_tup, go_rng1, go_rng1_ok, go_rng2, go_rng2_ok, go_zip, go_zip_l, go_zip_t, go_enum, go_enum_l, go_sFor, go_for1, kLoop_next, kLoop_cont, kLoop_brk, kLoop_ret, kLoop_exc, turn_next, turn_cont, go_lc, go_lc1, kLc_ok, elem_ok, go_yes, go_sl, go_sl1, go_sl2, go_sl3, go_noP, go_p, go_p1, go_rev, go_rev1, go_chain, go_ch1, go_ch2, go_ch3T, go_ch3F, go_ch4, go_dic, go_dic1, go_prs_nil, go_prs, go_prs1, go_prs2, go_prs3, go_prs4, kW_ok, go_fcall, go_fcall1, kRunW_ok, go_okW, go_cf, go_cf1, oAdd_int, oAdd_bl, atI_0, atI_1, atI_2, atI_3, ixN_0, ixN_1, ixN_2, sz_lit, List.getElem?_cons_zero, List.getElem?_cons_succ, List.set_cons_zero, List.set_cons_succ, List.nil_append, List.cons_append, List.append_nil, List.length_cons, List.length_nil, Nat.reduceSub, Nat.reduceLeDiff, Nat.zero_add, Option.bind_some, Option.map_some, reduceCtorEq, Int.reduceLT, Int.reduceLE, Int.reduceNeg, Int.reducePow, Int.reduceToNat, and_true, true_and, and_self, ite_true, ite_false, if_true, if_false, Bool.not_true, Bool.not_false, Bool.true_and, Bool.false_and, Bool.and_true, Bool.and_false, Bool.true_or, Bool.false_or, oSub, oNeg, oLt, oLe, oGt, oGe, oIs, oIsNot, Vs.isNon, oTru, oBl, oIx, oLen, oAbs, oIntC, oMax2, oMin2, oTupC, oLstC, oSl, keyD, decide_true, decide_false, plainE, fzE, gIx, List.filterMap_cons, List.filterMap_nil, wipeE, restE, List.all_cons, List.all_nil, List.getD_eq_getElem?_getD, Option.getD_some, oMod_ok, oFdiv_ok, oPow_lit, oMul_lit, oRepr_bl, oEq_str, oNe_str, oEq_int, oNe_int, oEq_bl, oNe_bl, oEq_nil, oNe_nil, oIsi_int, oIsi_bool, oIsi_listed, str_beq, isL]
    by_cases hk : (xs.length : Int) = k
    · simp only [decide_eq_true hk, k_ok, k_exc, kS_ok, kS_exc, kq_next, kq_ret, kq_brk, kq_cont, kq_exc, kq_retF, go_ok, go_exc, go_next, go_ret, go_brk, go_cont, go_excS, go_retF, go_some, go_v, getV_fz, go_c, go_bin, go_bin1, go_bin2, go_un, go_un1, go_tru, go_tru1, go_bl, go_bl1, go_and, go_andT, go_andF, go_or, go_orT, go_orF, go_not, go_not1, go_andV, go_orV, go_andV1, go_orV1, go_andVT, go_andVF, go_orVT, go_orVF, go_notV, go_notV1, go_notV2, go_if, go_ifT, go_ifF, go_nil, go_cons, go_cons1, go_cons2, go_chk, go_lst, go_tup, go_lst1, go_tup1, go_cal, go_cal1, go_isi, go_isi1, go_seq, go_sRet, go_ret1, go_sExpr, go_ex1, go_sIf, go_sifT, go_sifF, go_optS, go_sAsg, go_asg1, go_sSet, go_set1, go_sPar, go_par1, go_sAug, go_augV, kN_eq, kNil_eq, kCons_eq, kT_eq, rdE_eq, rdO_fz, rdO_ol, ownE_eq, owO_ol, go_binL, go_binL1, go_binL2, oSw_eq, go_binR, go_binR1, go_sPut, go_put1, go_putO, go_put2, go_putP, go_putN, go_retF1, go_fLst, go_fl1, go_sOwn, go_own1, go_call, go_call1, kFR_ok, kFR_exc, go_callIo, go_io0, go_io1, go_io2, kIo_ok, kIo_exc, go_callN, go_calln1, go_calln2, go_okF, go_excF, kRun_next, kRun_ret, kRun_exc, finF_none, finF_some, finS_ol, go_finO, go_finX, go_items, go_items_lst, go_items_tup, go_rng1, go_rng1_ok, go_rng2, go_rng2_ok, go_zip, go_zip_l, go_zip_t, go_enum, go_enum_l, go_sFor, go_for1, kLoop_next, kLoop_cont, kLoop_brk, kLoop_ret, kLoop_exc, turn_next, turn_cont, go_lc, go_lc1, kLc_ok, elem_ok, go_yes, go_sl, go_sl1, go_sl2, go_sl3, go_noP, go_p, go_p1, go_rev, go_rev1, go_chain, go_ch1, go_ch2, go_ch3T, go_ch3F, go_ch4, go_dic, go_dic1, go_prs_nil, go_prs, go_prs1, go_prs2, go_prs3, go_prs4, kW_ok, go_fcall, go_fcall1, kRunW_ok, go_okW, go_cf, go_cf1, oAdd_int, oAdd_bl, atI_0, atI_1, atI_2, atI_3, ixN_0, ixN_1, ixN_2, sz_lit, List.getElem?_cons_zero, List.getElem?_cons_succ, List.set_cons_zero, List.set_cons_succ, List.nil_append, List.cons_append, List.append_nil, List.length_cons, List.length_nil, Nat.reduceSub, Nat.reduceLeDiff, Nat.zero_add, Option.bind_some, Option.map_some, reduceCtorEq, Int.reduceLT, Int.reduceLE, Int.reduceNeg, Int.reducePow, Int.reduceToNat, and_true, true_and, and_self, ite_true, ite_false, if_true, if_false, Bool.not_true, Bool.not_false, Bool.true_and, Bool.false_and, Bool.and_true, Bool.and_false, Bool.true_or, Bool.false_or, oSub, oNeg, oLt, oLe, oGt, oGe, oIs, oIsNot, Vs.isNon, oTru, oBl, oIx, oLen, oAbs, oIntC, oMax2, oMin2, oTupC, oLstC, oSl, keyD, decide_true, decide_false, plainE, fzE, gIx, List.filterMap_cons, List.filterMap_nil, wipeE, restE, List.all_cons, List.all_nil, List.getD_eq_getElem?_getD, Option.getD_some, oMod_ok, oFdiv_ok, oPow_lit, oMul_lit, oRepr_bl, oEq_str, oNe_str, oEq_int, oNe_int, oEq_bl, oNe_bl, oEq_nil, oNe_nil, oIsi_int, oIsi_bool, oIsi_listed, str_beq]
      rw [go_of (loopC_map (fun d => .bl (wth d lo hi)) [some (.fz (.tup xs)), some (.fz (.int k)), some (.fz lo), some (.fz hi), none] xs rfl fun d hd => of_go (by
        simp only [k_ok, k_exc, kS_ok, kS_exc, kq_next, kq_ret, kq_brk, kq_cont, kq_exc, kq_retF, go_ok, go_exc, go_next, go_ret, go_brk, go_cont, go_excS, go_retF, go_some, go_v, getV_fz, go_c, go_bin, go_bin1, go_bin2, go_un, go_un1, go_tru, go_tru1, go_bl, go_bl1, go_and, go_andT, go_andF, go_or, go_orT, go_orF, go_not, go_not1, go_andV, go_orV, go_andV1, go_orV1, go_andVT, go_andVF, go_orVT, go_orVF, go_notV, go_notV1, go_notV2, go_if, go_ifT, go_ifF, go_nil, go_cons, go_cons1, go_cons2, go_chk, go_lst, go_tup, go_lst1, go_tup1, go_cal, go_cal1, go_isi, go_isi1, go_seq, go_sRet, go_ret1, go_sExpr, go_ex1, go_sIf, go_sifT, go_sifF, go_optS, go_sAsg, go_asg1, go_sSet, go_set1, go_sPar, go_par1, go_sAug, go_augV, kN_eq, kNil_eq, kCons_eq, kT_eq, rdE_eq, rdO_fz, rdO_ol, ownE_eq, owO_ol, go_binL, go_binL1, go_binL2, oSw_eq, go_binR, go_binR1, go_sPut, go_put1, go_putO, go_put2, go_putP, go_putN, go_retF1, go_fLst, go_fl1, go_sOwn, go_own1, go_call, go_call1, kFR_ok, kFR_exc, go_callIo, go_io0, go_io1, go_io2, kIo_ok, kIo_exc, go_callN, go_calln1, go_calln2, go_okF, go_excF, kRun_next, kRun_ret, kRun_exc, finF_none, finF_some, finS_ol, go_finO, go_finX, go_items, go_items_lst, go_items_tup, go_rng1, go_rng1_ok, go_rng2, go_rng2_ok, go_zip, go_zip_l, go_zip_t, go_enum, go_enum_l, go_sFor, go_for1, kLoop_next, kLoop_cont, kLoop_brk, kLoop_ret, kLoop_exc, turn_next, turn_cont, go_lc, go_lc1, kLc_ok, elem_ok, go_yes, go_sl, go_sl1, go_sl2, go_sl3, go_noP, go_p, go_p1, go_rev, go_rev1, go_chain, go_ch1, go_ch2, go_ch3T, go_ch3F, go_ch4, go_dic, go_dic1, go_prs_nil, go_prs, go_prs1, go_prs2, go_prs3, go_prs4, kW_ok, go_fcall, go_fcall1, kRunW_ok, go_okW, go_cf, go_cf1, oAdd_int, oAdd_bl, atI_0, atI_1, atI_2, atI_3, ixN_0, ixN_1, ixN_2, sz_lit, List.getElem?_cons_zero, List.getElem?_cons_succ, List.set_cons_zero, List.set_cons_succ, List.nil_append, List.cons_append, List.append_nil, List.length_cons, List.length_nil, Nat.reduceSub, Nat.reduceLeDiff, Nat.zero_add, Option.bind_some, Option.map_some, reduceCtorEq, Int.reduceLT, Int.reduceLE, Int.reduceNeg, Int.reducePow, Int.reduceToNat, and_true, true_and, and_self, ite_true, ite_false, if_true, if_false, Bool.not_true, Bool.not_false, Bool.true_and, Bool.false_and, Bool.and_true, Bool.and_false, Bool.true_or, Bool.false_or, oSub, oNeg, oLt, oLe, oGt, oGe, oIs, oIsNot, Vs.isNon, oTru, oBl, oIx, oLen, oAbs, oIntC, oMax2, oMin2, oTupC, oLstC, oSl, keyD, decide_true, decide_false, plainE, fzE, gIx, List.filterMap_cons, List.filterMap_nil, wipeE, restE, List.all_cons, List.all_nil, List.getD_eq_getElem?_getD, Option.getD_some, oMod_ok, oFdiv_ok, oPow_lit, oMul_lit, oRepr_bl, oEq_str, oNe_str, oEq_int, oNe_int, oEq_bl, oNe_bl, oEq_nil, oNe_nil, oIsi_int, oIsi_bool, oIsi_listed, str_beq, v_is_within _ _ _ h1 h2]))]
      rw [kLc_ok (by rw [List.length_map]; exact small_sz hd)]
      simp only [k_ok, k_exc, kS_ok, kS_exc, kq_next, kq_ret, kq_brk, kq_cont, kq_exc, kq_retF, go_ok, go_exc, go_next, go_ret, go_brk, go_cont, go_excS, go_retF, go_some, go_v, getV_fz, go_c, go_bin, go_bin1, go_bin2, go_un, go_un1, go_tru, go_tru1, go_bl, go_bl1, go_and, go_andT, go_andF, go_or, go_orT, go_orF, go_not, go_not1, go_andV, go_orV, go_andV1, go_orV1, go_andVT, go_andVF, go_orVT, go_orVF, go_notV, go_notV1, go_notV2, go_if, go_ifT, go_ifF, go_nil, go_cons, go_cons1, go_cons2, go_chk, go_lst, go_tup, go_lst1, go_tup1, go_cal, go_cal1, go_isi, go_isi1, go_seq, go_sRet, go_ret1, go_sExpr, go_ex1, go_sIf, go_sifT, go_sifF, go_optS, go_sAsg, go_asg1, go_sSet, go_set1, go_sPar, go_par1, go_sAug, go_augV, kN_eq, kNil_eq, kCons_eq, kT_eq, rdE_eq, rdO_fz, rdO_ol, ownE_eq, owO_ol, go_binL, go_binL1, go_binL2, oSw_eq, go_binR, go_binR1, go_sPut, go_put1, go_putO, go_put2, go_putP, go_putN, go_retF1, go_fLst, go_fl1, go_sOwn, go_own1, go_call, go_call1, kFR_ok, kFR_exc, go_callIo, go_io0, go_io1, go_io2, kIo_ok, kIo_exc, go_callN, go_calln1, go_calln2, go_okF, go_excF, kRun_next, kRun_ret, kRun_exc, finF_none, finF_some, finS_ol, go_finO, go_finX, go_items, go_items_lst, go_items_tup, go_rng1, go_rng1_ok, go_rng2, go_rng2_ok, go_zip, go_zip_l, go_zip_t, go_enum, go_enum_l, go_sFor, go_for1, kLoop_next, kLoop_cont, kLoop_brk, kLoop_ret, kLoop_exc, turn_next, turn_cont, go_lc, go_lc1, kLc_ok, elem_ok, go_yes, go_sl, go_sl1, go_sl2, go_sl3, go_noP, go_p, go_p1, go_rev, go_rev1, go_chain, go_ch1, go_ch2, go_ch3T, go_ch3F, go_ch4, go_dic, go_dic1, go_prs_nil, go_prs, go_prs1, go_prs2, go_prs3, go_prs4, kW_ok, go_fcall, go_fcall1, kRunW_ok, go_okW, go_cf, go_cf1, oAdd_int, oAdd_bl, atI_0, atI_1, atI_2, atI_3, ixN_0, ixN_1, ixN_2, sz_lit, List.getElem?_cons_zero, List.getElem?_cons_succ, List.set_cons_zero, List.set_cons_succ, List.nil_append, List.cons_append, List.append_nil, List.length_cons, List.length_nil, Nat.reduceSub, Nat.reduceLeDiff, Nat.zero_add, Option.bind_some, Option.map_some, reduceCtorEq, Int.reduceLT, Int.reduceLE, Int.reduceNeg, Int.reducePow, Int.reduceToNat, and_true, true_and, and_self, ite_true, ite_false, if_true, if_false, Bool.not_true, Bool.not_false, Bool.true_and, Bool.false_and, Bool.and_true, Bool.and_false, Bool.true_or, Bool.false_or, oSub, oNeg, oLt, oLe, oGt, oGe, oIs, oIsNot, Vs.isNon, oTru, oBl, oIx, oLen, oAbs, oIntC, oMax2, oMin2, oTupC, oLstC, oSl, keyD, decide_true, decide_false, plainE, fzE, gIx, List.filterMap_cons, List.filterMap_nil, wipeE, restE, List.all_cons, List.all_nil, List.getD_eq_getElem?_getD, Option.getD_some, oMod_ok, oFdiv_ok, oPow_lit, oMul_lit, oRepr_bl, oEq_str, oNe_str, oEq_int, oNe_int, oEq_bl, oNe_bl, oEq_nil, oNe_nil, oIsi_int, oIsi_bool, oIsi_listed, str_beq, oAll_map, rowD, decide_eq_true hk]
    · simp only [decide_eq_false hk, k_ok, k_exc, kS_ok, kS_exc, kq_next, kq_ret, kq_brk, kq_cont, kq_exc, kq_retF, go_ok, go_exc, go_next, go_ret, go_brk, go_cont, go_excS, go_retF, go_some, go_v, getV_fz, go_c, go_bin, go_bin1, go_bin2, go_un, go_un1, go_tru, go_tru1, go_bl, go_bl1, go_and, go_andT, go_andF, go_or, go_orT, go_orF, go_not, go_not1, go_andV, go_orV, go_andV1, go_orV1, go_andVT, go_andVF, go_orVT, go_orVF, go_notV, go_notV1, go_notV2, go_if, go_ifT, go_ifF, go_nil, go_cons, go_cons1, go_cons2, go_chk, go_lst, go_tup, go_lst1, go_tup1, go_cal, go_cal1, go_isi, go_isi1, go_seq, go_sRet, go_ret1, go_sExpr, go_ex1, go_sIf, go_sifT, go_sifF, go_optS, go_sAsg, go_asg1, go_sSet, go_set1, go_sPar, go_par1, go_sAug, go_augV, kN_eq, kNil_eq, kCons_eq, kT_eq, rdE_eq, rdO_fz, rdO_ol, ownE_eq, owO_ol, go_binL, go_binL1, go_binL2, oSw_eq, go_binR, go_binR1, go_sPut, go_put1, go_putO, go_put2, go_putP, go_putN, go_retF1, go_fLst, go_fl1, go_sOwn, go_own1, go_call, go_call1, kFR_ok, kFR_exc, go_callIo, go_io0, go_io1, go_io2, kIo_ok, kIo_exc, go_callN, go_calln1, go_calln2, go_okF, go_excF, kRun_next, kRun_ret, kRun_exc, finF_none, finF_some, finS_ol, go_finO, go_finX, go_items, go_items_lst, go_items_tup, go_rng1, go_rng1_ok, go_rng2, go_rng2_ok, go_zip, go_zip_l, go_zip_t, go_enum, go_enum_l, go_sFor, go_for1, kLoop_next, kLoop_cont, kLoop_brk, kLoop_ret, kLoop_exc, turn_next, turn_cont, go_lc, go_lc1, kLc_ok, elem_ok, go_yes, go_sl, go_sl1, go_sl2, go_sl3, go_noP, go_p, go_p1, go_rev, go_rev1, go_chain, go_ch1, go_ch2, go_ch3T, go_ch3F, go_ch4, go_dic, go_dic1, go_prs_nil, go_prs, go_prs1, go_prs2, go_prs3, go_prs4, kW_ok, go_fcall, go_fcall1, kRunW_ok, go_okW, go_cf, go_cf1, oAdd_int, oAdd_bl, atI_0, atI_1, atI_2, atI_3, ixN_0, ixN_1, ixN_2, sz_lit, List.getElem?_cons_zero, List.getElem?_cons_succ, List.set_cons_zero, List.set_cons_succ, List.nil_append, List.cons_append, List.append_nil, List.length_cons, List.length_nil, Nat.reduceSub, Nat.reduceLeDiff, Nat.zero_add, Option.bind_some, Option.map_some, reduceCtorEq, Int.reduceLT, Int.reduceLE, Int.reduceNeg, Int.reducePow, Int.reduceToNat, and_true, true_and, and_self, ite_true, ite_false, if_true, if_false, Bool.not_true, Bool.not_false, Bool.true_and, Bool.false_and, Bool.and_true, Bool.and_false, Bool.true_or, Bool.false_or, oSub, oNeg, oLt, oLe, oGt, oGe, oIs, oIsNot, Vs.isNon, oTru, oBl, oIx, oLen, oAbs, oIntC, oMax2, oMin2, oTupC, oLstC, oSl, keyD, decide_true, decide_false, plainE, fzE, gIx, List.filterMap_cons, List.filterMap_nil, wipeE, restE, List.all_cons, List.all_nil, List.getD_eq_getElem?_getD, Option.getD_some, oMod_ok, oFdiv_ok, oPow_lit, oMul_lit, oRepr_bl, oEq_str, oNe_str, oEq_int, oNe_int, oEq_bl, oNe_bl, oEq_nil, oNe_nil, oIsi_int, oIsi_bool, oIsi_listed, str_beq, rowD]
  | scr ns => exact hd.elim
  | _ => simp only [k_ok, k_exc, kS_ok, kS_exc, kq_next, kq_ret, kq_brk, kq_cont, kq_exc, kq_retF, go_ok, go_exc, go_next, go_ret, go_brk, go_cont, go_excS, go_retF, go_some, go_v, getV_fz, go_c, go_bin, go_bin1, go_bin2, go_un, go_un1, go_tru, go_tru1, go_bl, go_bl1, go_and, go_andT, go_andF, go_or, go_orT, go_orF, go_not, go_not1, go_andV, go_orV, go_andV1, go_orV1, go_andVT, go_andVF, go_orVT, go_orVF, go_notV, go_notV1, go_notV2, go_if, go_ifT, go_ifF, go_nil, go_cons, go_cons1, go_cons2, go_chk, go_lst, go_tup, go_lst1, go_tup1, go_cal, go_cal1, go_isi, go_isi1, go_seq, go_sRet, go_ret1, go_sExpr, go_ex1, go_sIf, go_sifT, go_sifF, go_optS, go_sAsg, go_asg1, go_sSet, go_set1, go_sPar, go_par1, go_sAug, go_augV, kN_eq, kNil_eq, kCons_eq, kT_eq, rdE_eq, rdO_fz, rdO_ol, ownE_eq, owO_ol, go_binL, go_binL1, go_binL2, oSw_eq, go_binR, go_binR1, go_sPut, go_put1, go_putO, go_put2, go_putP, go_putN, go_retF1, go_fLst, go_fl1, go_sOwn, go_own1, go_call, go_call1, kFR_ok, kFR_exc, go_callIo, go_io0, go_io1, go_io2, kIo_ok, kIo_exc, go_callN, go_calln1, go_calln2, go_okF, go_excF, kRun_next, kRun_ret, kRun_exc, finF_none, finF_some, finS_ol, go_finO, go_finX, go_items, go_items_lst, go_items_tup, go_rng1, go_rng1_ok, go_rng2, go_rng2_ok, go_zip, go_zip_l, go_zip_t, go_enum, go_enum_l, go_sFor, go_for1, kLoop_next, kLoop_cont, kLoop_brk, kLoop_ret, kLoop_exc, turn_next, turn_cont, go_lc, go_lc1, kLc_ok, elem_ok, go_yes, go_sl, go_sl1, go_sl2, go_sl3, go_noP, go_p, go_p1, go_rev, go_rev1, go_chain, go_ch1, go_ch2, go_ch3T, go_ch3F, go_ch4, go_dic, go_dic1, go_prs_nil, go_prs, go_prs1, go_prs2, go_prs3, go_prs4, kW_ok, go_fcall, go_fcall1, kRunW_ok, go_okW, go_cf, go_cf1, oAdd_int, oAdd_bl, atI_0, atI_1, atI_2, atI_3, ixN_0, ixN_1, ixN_2, sz_lit, List.getElem?_cons_zero, List.getElem?_cons_succ, List.set_cons_zero, List.set_cons_succ, List.nil_append, List.cons_append, List.append_nil, List.length_cons, List.length_nil, Nat.reduceSub, Nat.reduceLeDiff, Nat.zero_add, Option.bind_some, Option.map_some, reduceCtorEq, Int.reduceLT, Int.reduceLE, Int.reduceNeg, Int.reducePow, Int.reduceToNat, and_true, true_and, and_self, ite_true, ite_false, if_true, if_false, Bool.not_true, Bool.not_false, Bool.true_and, Bool.false_and, Bool.and_true, Bool.and_false, Bool.true_or, Bool.false_or, oSub, oNeg, oLt, oLe, oGt, oGe, oIs, oIsNot, Vs.isNon, oTru, oBl, oIx, oLen, oAbs, oIntC, oMax2, oMin2, oTupC, oLstC, oSl, keyD, decide_true, decide_false, plainE, fzE, gIx, List.filterMap_cons, List.filterMap_nil, wipeE, restE, List.all_cons, List.all_nil, List.getD_eq_getElem?_getD, Option.getD_some, oMod_ok, oFdiv_ok, oPow_lit, oMul_lit, oRepr_bl, oEq_str, oNe_str, oEq_int, oNe_int, oEq_bl, oNe_bl, oEq_nil, oNe_nil, oIsi_int, oIsi_bool, oIsi_listed, str_beq, isL, rowD])
theorem draws : Draws F__law_draw := drawsA (c1 := 52021) (c2 := 8117) (m1 := 2147483549) (c3 := 61057) (m2 := 2147483563) (m3 := 2147483587) (by unfold smallC smallM; omega)
theorem picks : Picks F__law_pick := picksA draws
theorem odd_go {K : FR → Prop} {n : Nat} {W : List D} (h : Wl n W) (hn : n < 2 ^ 22) (hK : ∀ W' x, Wl (n + 1) W' → Fine x → isI x = false → K (.ok x (some W'))) : Go K (F__law_odd (some W) []) := by
  rw [run__law_odd]; unfold b__law_odd
  simp only [k_ok, k_exc, kS_ok, kS_exc, kq_next, kq_ret, kq_brk, kq_cont, kq_exc, kq_retF, go_ok, go_exc, go_next, go_ret, go_brk, go_cont, go_excS, go_retF, go_some, go_v, getV_fz, go_c, go_bin, go_bin1, go_bin2, go_un, go_un1, go_tru, go_tru1, go_bl, go_bl1, go_and, go_andT, go_andF, go_or, go_orT, go_orF, go_not, go_not1, go_andV, go_orV, go_andV1, go_orV1, go_andVT, go_andVF, go_orVT, go_orVF, go_notV, go_notV1, go_notV2, go_if, go_ifT, go_ifF, go_nil, go_cons, go_cons1, go_cons2, go_chk, go_lst, go_tup, go_lst1, go_tup1, go_cal, go_cal1, go_isi, go_isi1, go_seq, go_sRet, go_ret1, go_sExpr, go_ex1, go_sIf, go_sifT, go_sifF, go_optS, go_sAsg, go_asg1, go_sSet, go_set1, go_sPar, go_par1, go_sAug, go_augV, kN_eq, kNil_eq, kCons_eq, kT_eq, rdE_eq, rdO_fz, rdO_ol, ownE_eq, owO_ol, go_binL, go_binL1, go_binL2, oSw_eq, go_binR, go_binR1, go_sPut, go_put1, go_putO, go_put2, go_putP, go_putN, go_retF1, go_fLst, go_fl1, go_sOwn, go_own1, go_call, go_call1, kFR_ok, kFR_exc, go_callIo, go_io0, go_io1, go_io2, kIo_ok, kIo_exc, go_callN, go_calln1, go_calln2, go_okF, go_excF, kRun_next, kRun_ret, kRun_exc, finF_none, finF_some, finS_ol, go_finO, go_finX, go_items, go_items_lst, go_items_tup, go_rng1, go_rng1_ok, go_rng2, go_rng2_ok, go_zip, go_zip_l, go_zip_t, go_enum, go_enum_l, go_sFor, go_for1, kLoop_next, kLoop_cont, kLoop_brk, kLoop_ret, kLoop_exc, turn_next, turn_cont, go_lc, go_lc1, kLc_ok, elem_ok, go_yes, go_sl, go_sl1, go_sl2, go_sl3, go_noP, go_p, go_p1, go_rev, go_rev1, go_chain, go_ch1, go_ch2, go_ch3T, go_ch3F, go_ch4, go_dic, go_dic1, go_prs_nil, go_prs, go_prs1, go_prs2, go_prs3, go_prs4, kW_ok, go_fcall, go_fcall1, kRunW_ok, go_okW, go_cf, go_cf1, oAdd_int, oAdd_bl, atI_0, atI_1, atI_2, atI_3, ixN_0, ixN_1, ixN_2, sz_lit, List.getElem?_cons_zero, List.getElem?_cons_succ, List.set_cons_zero, List.set_cons_succ, List.nil_append, List.cons_append, List.append_nil, List.length_cons, List.length_nil, Nat.reduceSub, Nat.reduceLeDiff, Nat.zero_add, Option.bind_some, Option.map_some, reduceCtorEq, Int.reduceLT, Int.reduceLE, Int.reduceNeg, Int.reducePow, Int.reduceToNat, and_true, true_and, and_self, ite_true, ite_false, if_true, if_false, Bool.not_true, Bool.not_false, Bool.true_and, Bool.false_and, Bool.and_true, Bool.and_false, Bool.true_or, Bool.false_or, oSub, oNeg, oLt, oLe, oGt, oGe, oIs, oIsNot, Vs.isNon, oTru, oBl, oIx, oLen, oAbs, oIntC, oMax2, oMin2, oTupC, oLstC, oSl, keyD, decide_true, decide_false, plainE, fzE, gIx, List.filterMap_cons, List.filterMap_nil, wipeE, restE, List.all_cons, List.all_nil, List.getD_eq_getElem?_getD, Option.getD_some, oMod_ok, oFdiv_ok, oPow_lit, oMul_lit, oRepr_bl, oEq_str, oNe_str, oEq_int, oNe_int, oEq_bl, oNe_bl, oEq_nil, oNe_nil, oIsi_int, oIsi_bool, oIsi_listed, str_beq]
  refine picks _ n W _ _ (.inl rfl) h hn (by simp) (by simp) fun W' x h1 hx => ?_
  simp only [k_ok, k_exc, kS_ok, kS_exc, kq_next, kq_ret, kq_brk, kq_cont, kq_exc, kq_retF, go_ok, go_exc, go_next, go_ret, go_brk, go_cont, go_excS, go_retF, go_some, go_v, getV_fz, go_c, go_bin, go_bin1, go_bin2, go_un, go_un1, go_tru, go_tru1, go_bl, go_bl1, go_and, go_andT, go_andF, go_or, go_orT, go_orF, go_not, go_not1, go_andV, go_orV, go_andV1, go_orV1, go_andVT, go_andVF, go_orVT, go_orVF, go_notV, go_notV1, go_notV2, go_if, go_ifT, go_ifF, go_nil, go_cons, go_cons1, go_cons2, go_chk, go_lst, go_tup, go_lst1, go_tup1, go_cal, go_cal1, go_isi, go_isi1, go_seq, go_sRet, go_ret1, go_sExpr, go_ex1, go_sIf, go_sifT, go_sifF, go_optS, go_sAsg, go_asg1, go_sSet, go_set1, go_sPar, go_par1, go_sAug, go_augV, kN_eq, kNil_eq, kCons_eq, kT_eq, rdE_eq, rdO_fz, rdO_ol, ownE_eq, owO_ol, go_binL, go_binL1, go_binL2, oSw_eq, go_binR, go_binR1, go_sPut, go_put1, go_putO, go_put2, go_putP, go_putN, go_retF1, go_fLst, go_fl1, go_sOwn, go_own1, go_call, go_call1, kFR_ok, kFR_exc, go_callIo, go_io0, go_io1, go_io2, kIo_ok, kIo_exc, go_callN, go_calln1, go_calln2, go_okF, go_excF, kRun_next, kRun_ret, kRun_exc, finF_none, finF_some, finS_ol, go_finO, go_finX, go_items, go_items_lst, go_items_tup, go_rng1, go_rng1_ok, go_rng2, go_rng2_ok, go_zip, go_zip_l, go_zip_t, go_enum, go_enum_l, go_sFor, go_for1, kLoop_next, kLoop_cont, kLoop_brk, kLoop_ret, kLoop_exc, turn_next, turn_cont, go_lc, go_lc1, kLc_ok, elem_ok, go_yes, go_sl, go_sl1, go_sl2, go_sl3, go_noP, go_p, go_p1, go_rev, go_rev1, go_chain, go_ch1, go_ch2, go_ch3T, go_ch3F, go_ch4, go_dic, go_dic1, go_prs_nil, go_prs, go_prs1, go_prs2, go_prs3, go_prs4, kW_ok, go_fcall, go_fcall1, kRunW_ok, go_okW, go_cf, go_cf1, oAdd_int, oAdd_bl, atI_0, atI_1, atI_2, atI_3, ixN_0, ixN_1, ixN_2, sz_lit, List.getElem?_cons_zero, List.getElem?_cons_succ, List.set_cons_zero, List.set_cons_succ, List.nil_append, List.cons_append, List.append_nil, List.length_cons, List.length_nil, Nat.reduceSub, Nat.reduceLeDiff, Nat.zero_add, Option.bind_some, Option.map_some, reduceCtorEq, Int.reduceLT, Int.reduceLE, Int.reduceNeg, Int.reducePow, Int.reduceToNat, and_true, true_and, and_self, ite_true, ite_false, if_true, if_false, Bool.not_true, Bool.not_false, Bool.true_and, Bool.false_and, Bool.and_true, Bool.and_false, Bool.true_or, Bool.false_or, oSub, oNeg, oLt, oLe, oGt, oGe, oIs, oIsNot, Vs.isNon, oTru, oBl, oIx, oLen, oAbs, oIntC, oMax2, oMin2, oTupC, oLstC, oSl, keyD, decide_true, decide_false, plainE, fzE, gIx, List.filterMap_cons, List.filterMap_nil, wipeE, restE, List.all_cons, List.all_nil, List.getD_eq_getElem?_getD, Option.getD_some, oMod_ok, oFdiv_ok, oPow_lit, oMul_lit, oRepr_bl, oEq_str, oNe_str, oEq_int, oNe_int, oEq_bl, oNe_bl, oEq_nil, oNe_nil, oIsi_int, oIsi_bool, oIsi_listed, str_beq, finF_some, finS_ol]
  have q : Fine x ∧ isI x = false := by
    simp only [List.mem_cons, List.not_mem_nil, or_false] at hx
    rcases hx with rfl | rfl | rfl | rfl | rfl | rfl | rfl | rfl | rfl | rfl | rfl | rfl <;> simp [Fine, isI]
  exact hK _ _ h1 q.1 q.2
theorem item_go {K : FR → Prop} {n : Nat} {W : List D} {l u : Int} (h : Wl n W) (hn : n < 2 ^ 21) (hK : ∀ W' x, Wl (n + 2) W' → K (.ok x (some W'))) : Go K (F__law_item (some W) [.int l, .int u]) := by
  rw [run__law_item]; unfold b__law_item
  simp only [k_ok, k_exc, kS_ok, kS_exc, kq_next, kq_ret, kq_brk, kq_cont, kq_exc, kq_retF, go_ok, go_exc, go_next, go_ret, go_brk, go_cont, go_excS, go_retF, go_some, go_v, getV_fz, go_c, go_bin, go_bin1, go_bin2, go_un, go_un1, go_tru, go_tru1, go_bl, go_bl1, go_and, go_andT, go_andF, go_or, go_orT, go_orF, go_not, go_not1, go_andV, go_orV, go_andV1, go_orV1, go_andVT, go_andVF, go_orVT, go_orVF, go_notV, go_notV1, go_notV2, go_if, go_ifT, go_ifF, go_nil, go_cons, go_cons1, go_cons2, go_chk, go_lst, go_tup, go_lst1, go_tup1, go_cal, go_cal1, go_isi, go_isi1, go_seq, go_sRet, go_ret1, go_sExpr, go_ex1, go_sIf, go_sifT, go_sifF, go_optS, go_sAsg, go_asg1, go_sSet, go_set1, go_sPar, go_par1, go_sAug, go_augV, kN_eq, kNil_eq, kCons_eq, kT_eq, rdE_eq, rdO_fz, rdO_ol, ownE_eq, owO_ol, go_binL, go_binL1, go_binL2, oSw_eq, go_binR, go_binR1, go_sPut, go_put1, go_putO, go_put2, go_putP, go_putN, go_retF1, go_fLst, go_fl1, go_sOwn, go_own1, go_call, go_call1, kFR_ok, kFR_exc, go_callIo, go_io0, go_io1, go_io2, kIo_ok, kIo_exc, go_callN, go_calln1, go_calln2, go_okF, go_excF, kRun_next, kRun_ret, kRun_exc, finF_none, finF_some, finS_ol, go_finO, go_finX, go_items, go_items_lst, go_items_tup, go_rng1, go_rng1_ok, go_rng2, go_rng2_ok, go_zip, go_zip_l, go_zip_t, go_enum, go_enum_l, go_sFor, go_for1, kLoop_next, kLoop_cont, kLoop_brk, kLoop_ret, kLoop_exc, turn_next, turn_cont, go_lc, go_lc1, kLc_ok, elem_ok, go_yes, go_sl, go_sl1, go_sl2, go_sl3, go_noP, go_p, go_p1, go_rev, go_rev1, go_chain, go_ch1, go_ch2, go_ch3T, go_ch3F, go_ch4, go_dic, go_dic1, go_prs_nil, go_prs, go_prs1, go_prs2, go_prs3, go_prs4, kW_ok, go_fcall, go_fcall1, kRunW_ok, go_okW, go_cf, go_cf1, oAdd_int, oAdd_bl, atI_0, atI_1, atI_2, atI_3, ixN_0, ixN_1, ixN_2, sz_lit, List.getElem?_cons_zero, List.getElem?_cons_succ, List.set_cons_zero, List.set_cons_succ, List.nil_append, List.cons_append, List.append_nil, List.length_cons, List.length_nil, Nat.reduceSub, Nat.reduceLeDiff, Nat.zero_add, Option.bind_some, Option.map_some, reduceCtorEq, Int.reduceLT, Int.reduceLE, Int.reduceNeg, Int.reducePow, Int.reduceToNat, and_true, true_and, and_self, ite_true, ite_false, if_true, if_false, Bool.not_true, Bool.not_false, Bool.true_and, Bool.false_and, Bool.and_true, Bool.and_false, Bool.true_or, Bool.false_or, oSub, oNeg, oLt, oLe, oGt, oGe, oIs, oIsNot, Vs.isNon, oTru, oBl, oIx, oLen, oAbs, oIntC, oMax2, oMin2, oTupC, oLstC, oSl, keyD, decide_true, decide_false, plainE, fzE, gIx, List.filterMap_cons, List.filterMap_nil, wipeE, restE, List.all_cons, List.all_nil, List.getD_eq_getElem?_getD, Option.getD_some, oMod_ok, oFdiv_ok, oPow_lit, oMul_lit, oRepr_bl, oEq_str, oNe_str, oEq_int, oNe_int, oEq_bl, oNe_bl, oEq_nil, oNe_nil, oIsi_int, oIsi_bool, oIsi_listed, str_beq]
  refine draws _ n W _ h (by omega) (by omega) (by omega) fun W1 x h1 hx1 hx2 => ?_
  simp only [k_ok, k_exc, kS_ok, kS_exc, kq_next, kq_ret, kq_brk, kq_cont, kq_exc, kq_retF, go_ok, go_exc, go_next, go_ret, go_brk, go_cont, go_excS, go_retF, go_some, go_v, getV_fz, go_c, go_bin, go_bin1, go_bin2, go_un, go_un1, go_tru, go_tru1, go_bl, go_bl1, go_and, go_andT, go_andF, go_or, go_orT, go_orF, go_not, go_not1, go_andV, go_orV, go_andV1, go_orV1, go_andVT, go_andVF, go_orVT, go_orVF, go_notV, go_notV1, go_notV2, go_if, go_ifT, go_ifF, go_nil, go_cons, go_cons1, go_cons2, go_chk, go_lst, go_tup, go_lst1, go_tup1, go_cal, go_cal1, go_isi, go_isi1, go_seq, go_sRet, go_ret1, go_sExpr, go_ex1, go_sIf, go_sifT, go_sifF, go_optS, go_sAsg, go_asg1, go_sSet, go_set1, go_sPar, go_par1, go_sAug, go_augV, kN_eq, kNil_eq, kCons_eq, kT_eq, rdE_eq, rdO_fz, rdO_ol, ownE_eq, owO_ol, go_binL, go_binL1, go_binL2, oSw_eq, go_binR, go_binR1, go_sPut, go_put1, go_putO, go_put2, go_putP, go_putN, go_retF1, go_fLst, go_fl1, go_sOwn, go_own1, go_call, go_call1, kFR_ok, kFR_exc, go_callIo, go_io0, go_io1, go_io2, kIo_ok, kIo_exc, go_callN, go_calln1, go_calln2, go_okF, go_excF, kRun_next, kRun_ret, kRun_exc, finF_none, finF_some, finS_ol, go_finO, go_finX, go_items, go_items_lst, go_items_tup, go_rng1, go_rng1_ok, go_rng2, go_rng2_ok, go_zip, go_zip_l, go_zip_t, go_enum, go_enum_l, go_sFor, go_for1, kLoop_next, kLoop_cont, kLoop_brk, kLoop_ret, kLoop_exc, turn_next, turn_cont, go_lc, go_lc1, kLc_ok, elem_ok, go_yes, go_sl, go_sl1, go_sl2, go_sl3, go_noP, go_p, go_p1, go_rev, go_rev1, go_chain, go_ch1, go_ch2, go_ch3T, go_ch3F, go_ch4, go_dic, go_dic1, go_prs_nil, go_prs, go_prs1, go_prs2, go_prs3, go_prs4, kW_ok, go_fcall, go_fcall1, kRunW_ok, go_okW, go_cf, go_cf1, oAdd_int, oAdd_bl, atI_0, atI_1, atI_2, atI_3, ixN_0, ixN_1, ixN_2, sz_lit, List.getElem?_cons_zero, List.getElem?_cons_succ, List.set_cons_zero, List.set_cons_succ, List.nil_append, List.cons_append, List.append_nil, List.length_cons, List.length_nil, Nat.reduceSub, Nat.reduceLeDiff, Nat.zero_add, Option.bind_some, Option.map_some, reduceCtorEq, Int.reduceLT, Int.reduceLE, Int.reduceNeg, Int.reducePow, Int.reduceToNat, and_true, true_and, and_self, ite_true, ite_false, if_true, if_false, Bool.not_true, Bool.not_false, Bool.true_and, Bool.false_and, Bool.and_true, Bool.and_false, Bool.true_or, Bool.false_or, oSub, oNeg, oLt, oLe, oGt, oGe, oIs, oIsNot, Vs.isNon, oTru, oBl, oIx, oLen, oAbs, oIntC, oMax2, oMin2, oTupC, oLstC, oSl, keyD, decide_true, decide_false, plainE, fzE, gIx, List.filterMap_cons, List.filterMap_nil, wipeE, restE, List.all_cons, List.all_nil, List.getD_eq_getElem?_getD, Option.getD_some, oMod_ok, oFdiv_ok, oPow_lit, oMul_lit, oRepr_bl, oEq_str, oNe_str, oEq_int, oNe_int, oEq_bl, oNe_bl, oEq_nil, oNe_nil, oIsi_int, oIsi_bool, oIsi_listed, str_beq]
  by_cases hx : x = 0
  · simp only [decide_eq_true hx, k_ok, k_exc, kS_ok, kS_exc, kq_next, kq_ret, kq_brk, kq_cont, kq_exc, kq_retF, go_ok, go_exc, go_next, go_ret, go_brk, go_cont, go_excS, go_retF, go_some, go_v, getV_fz, go_c, go_bin, go_bin1, go_bin2, go_un, go_un1, go_tru, go_tru1, go_bl, go_bl1, go_and, go_andT, go_andF, go_or, go_orT, go_orF, go_not, go_not1, go_andV, go_orV, go_andV1, go_orV1, go_andVT, go_andVF, go_orVT, go_orVF, go_notV, go_notV1, go_notV2, go_if, go_ifT, go_ifF, go_nil, go_cons, go_cons1, go_cons2, go_chk, go_lst, go_tup, go_lst1, go_tup1, go_cal, go_cal1, go_isi, go_isi1, go_seq, go_sRet, go_ret1, go_sExpr, go_ex1, go_sIf, go_sifT, go_sifF, go_optS, go_sAsg, go_asg1, go_sSet, go_set1, go_sPar, go_par1, go_sAug, go_augV, kN_eq, kNil_eq, kCons_eq, kT_eq, rdE_eq, rdO_fz, rdO_ol, ownE_eq, owO_ol, go_binL, go_binL1, go_binL2, oSw_eq, go_binR, go_binR1, go_sPut, go_put1, go_putO, go_put2, go_putP, go_putN, go_retF1, go_fLst, go_fl1, go_sOwn, go_own1, go_call, go_call1, kFR_ok, kFR_exc, go_callIo, go_io0, go_io1, go_io2, kIo_ok, kIo_exc, go_callN, go_calln1, go_calln2, go_okF, go_excF, kRun_next, kRun_ret, kRun_exc, finF_none, finF_some, finS_ol, go_finO, go_finX, go_items, go_items_lst, go_items_tup, go_rng1, go_rng1_ok, go_rng2, go_rng2_ok, go_zip, go_zip_l, go_zip_t, go_enum, go_enum_l, go_sFor, go_for1, kLoop_next, kLoop_cont, kLoop_brk, kLoop_ret, kLoop_exc, turn_next, turn_cont, go_lc, go_lc1, kLc_ok, elem_ok, go_yes, go_sl, go_sl1, go_sl2, go_sl3, go_noP, go_p, go_p1, go_rev, go_rev1, go_chain, go_ch1, go_ch2, go_ch3T, go_ch3F, go_ch4, go_dic, go_dic1, go_prs_nil, go_prs, go_prs1, go_prs2, go_prs3, go_prs4, kW_ok, go_fcall, go_fcall1, kRunW_ok, go_okW, go_cf, go_cf1, oAdd_int, oAdd_bl, atI_0, atI_1, atI_2, atI_3, ixN_0, ixN_1, ixN_2, sz_lit, List.getElem?_cons_zero, List.getElem?_cons_succ, List.set_cons_zero, List.set_cons_succ, List.nil_append, List.cons_append, List.append_nil, List.length_cons, List.length_nil, Nat.reduceSub, Nat.reduceLeDiff, Nat.zero_add, Option.bind_some, Option.map_some, reduceCtorEq, Int.reduceLT, Int.reduceLE, Int.reduceNeg, Int.reducePow, Int.reduceToNat, and_true, true_and, and_self, ite_true, ite_false, if_true, if_false, Bool.not_true, Bool.not_false, Bool.true_and, Bool.false_and, Bool.and_true, Bool.and_false, Bool.true_or, Bool.false_or, oSub, oNeg, oLt, oLe, oGt, oGe, oIs, oIsNot, Vs.isNon, oTru, oBl, oIx, oLen, oAbs, oIntC, oMax2, oMin2, oTupC, oLstC, oSl, keyD, decide_true, decide_false, plainE, fzE, gIx, List.filterMap_cons, List.filterMap_nil, wipeE, restE, List.all_cons, List.all_nil, List.getD_eq_getElem?_getD, Option.getD_some, oMod_ok, oFdiv_ok, oPow_lit, oMul_lit, oRepr_bl, oEq_str, oNe_str, oEq_int, oNe_int, oEq_bl, oNe_bl, oEq_nil, oNe_nil, oIsi_int, oIsi_bool, oIsi_listed, str_beq]
    refine odd_go h1 (by omega) fun W2 y h2 _ _ => ?_
    simp only [k_ok, k_exc, kS_ok, kS_exc, kq_next, kq_ret, kq_brk, kq_cont, kq_exc, kq_retF, go_ok, go_exc, go_next, go_ret, go_brk, go_cont, go_excS, go_retF, go_some, go_v, getV_fz, go_c, go_bin, go_bin1, go_bin2, go_un, go_un1, go_tru, go_tru1, go_bl, go_bl1, go_and, go_andT, go_andF, go_or, go_orT, go_orF, go_not, go_not1, go_andV, go_orV, go_andV1, go_orV1, go_andVT, go_andVF, go_orVT, go_orVF, go_notV, go_notV1, go_notV2, go_if, go_ifT, go_ifF, go_nil, go_cons, go_cons1, go_cons2, go_chk, go_lst, go_tup, go_lst1, go_tup1, go_cal, go_cal1, go_isi, go_isi1, go_seq, go_sRet, go_ret1, go_sExpr, go_ex1, go_sIf, go_sifT, go_sifF, go_optS, go_sAsg, go_asg1, go_sSet, go_set1, go_sPar, go_par1, go_sAug, go_augV, kN_eq, kNil_eq, kCons_eq, kT_eq, rdE_eq, rdO_fz, rdO_ol, ownE_eq, owO_ol, go_binL, go_binL1, go_binL2, oSw_eq, go_binR, go_binR1, go_sPut, go_put1, go_putO, go_put2, go_putP, go_putN, go_retF1, go_fLst, go_fl1, go_sOwn, go_own1, go_call, go_call1, kFR_ok, kFR_exc, go_callIo, go_io0, go_io1, go_io2, kIo_ok, kIo_exc, go_callN, go_calln1, go_calln2, go_okF, go_excF, kRun_next, kRun_ret, kRun_exc, finF_none, finF_some, finS_ol, go_finO, go_finX, go_items, go_items_lst, go_items_tup, go_rng1, go_rng1_ok, go_rng2, go_rng2_ok, go_zip, go_zip_l, go_zip_t, go_enum, go_enum_l, go_sFor, go_for1, kLoop_next, kLoop_cont, kLoop_brk, kLoop_ret, kLoop_exc, turn_next, turn_cont, go_lc, go_lc1, kLc_ok, elem_ok, go_yes, go_sl, go_sl1, go_sl2, go_sl3, go_noP, go_p, go_p1, go_rev, go_rev1, go_chain, go_ch1, go_ch2, go_ch3T, go_ch3F, go_ch4, go_dic, go_dic1, go_prs_nil, go_prs, go_prs1, go_prs2, go_prs3, go_prs4, kW_ok, go_fcall, go_fcall1, kRunW_ok, go_okW, go_cf, go_cf1, oAdd_int, oAdd_bl, atI_0, atI_1, atI_2, atI_3, ixN_0, ixN_1, ixN_2, sz_lit, List.getElem?_cons_zero, List.getElem?_cons_succ, List.set_cons_zero, List.set_cons_succ, List.nil_append, List.cons_append, List.append_nil, List.length_cons, List.length_nil, Nat.reduceSub, Nat.reduceLeDiff, Nat.zero_add, Option.bind_some, Option.map_some, reduceCtorEq, Int.reduceLT, Int.reduceLE, Int.reduceNeg, Int.reducePow, Int.reduceToNat, and_true, true_and, and_self, ite_true, ite_false, if_true, if_false, Bool.not_true, Bool.not_false, Bool.true_and, Bool.false_and, Bool.and_true, Bool.and_false, Bool.true_or, Bool.false_or, oSub, oNeg, oLt, oLe, oGt, oGe, oIs, oIsNot, Vs.isNon, oTru, oBl, oIx, oLen, oAbs, oIntC, oMax2, oMin2, oTupC, oLstC, oSl, keyD, decide_true, decide_false, plainE, fzE, gIx, List.filterMap_cons, List.filterMap_nil, wipeE, restE, List.all_cons, List.all_nil, List.getD_eq_getElem?_getD, Option.getD_some, oMod_ok, oFdiv_ok, oPow_lit, oMul_lit, oRepr_bl, oEq_str, oNe_str, oEq_int, oNe_int, oEq_bl, oNe_bl, oEq_nil, oNe_nil, oIsi_int, oIsi_bool, oIsi_listed, str_beq]
    exact hK _ _ h2
  · simp only [decide_eq_false hx, k_ok, k_exc, kS_ok, kS_exc, kq_next, kq_ret, kq_brk, kq_cont, kq_exc, kq_retF, go_ok, go_exc, go_next, go_ret, go_brk, go_cont, go_excS, go_retF, go_some, go_v, getV_fz, go_c, go_bin, go_bin1, go_bin2, go_un, go_un1, go_tru, go_tru1, go_bl, go_bl1, go_and, go_andT, go_andF, go_or, go_orT, go_orF, go_not, go_not1, go_andV, go_orV, go_andV1, go_orV1, go_andVT, go_andVF, go_orVT, go_orVF, go_notV, go_notV1, go_notV2, go_if, go_ifT, go_ifF, go_nil, go_cons, go_cons1, go_cons2, go_chk, go_lst, go_tup, go_lst1, go_tup1, go_cal, go_cal1, go_isi, go_isi1, go_seq, go_sRet, go_ret1, go_sExpr, go_ex1, go_sIf, go_sifT, go_sifF, go_optS, go_sAsg, go_asg1, go_sSet, go_set1, go_sPar, go_par1, go_sAug, go_augV, kN_eq, kNil_eq, kCons_eq, kT_eq, rdE_eq, rdO_fz, rdO_ol, ownE_eq, owO_ol, go_binL, go_binL1, go_binL2, oSw_eq, go_binR, go_binR1, go_sPut, go_put1, go_putO, go_put2, go_putP, go_putN, go_retF1, go_fLst, go_fl1, go_sOwn, go_own1, go_call, go_call1, kFR_ok, kFR_exc, go_callIo, go_io0, go_io1, go_io2, kIo_ok, kIo_exc, go_callN, go_calln1, go_calln2, go_okF, go_excF, kRun_next, kRun_ret, kRun_exc, finF_none, finF_some, finS_ol, go_finO, go_finX, go_items, go_items_lst, go_items_tup, go_rng1, go_rng1_ok, go_rng2, go_rng2_ok, go_zip, go_zip_l, go_zip_t, go_enum, go_enum_l, go_sFor, go_for1, kLoop_next, kLoop_cont, kLoop_brk, kLoop_ret, kLoop_exc, turn_next, turn_cont, go_lc, go_lc1, kLc_ok, elem_ok, go_yes, go_sl, go_sl1, go_sl2, go_sl3, go_noP, go_p, go_p1, go_rev, go_rev1, go_chain, go_ch1, go_ch2, go_ch3T, go_ch3F, go_ch4, go_dic, go_dic1, go_prs_nil, go_prs, go_prs1, go_prs2, go_prs3, go_prs4, kW_ok, go_fcall, go_fcall1, kRunW_ok, go_okW, go_cf, go_cf1, oAdd_int, oAdd_bl, atI_0, atI_1, atI_2, atI_3, ixN_0, ixN_1, ixN_2, sz_lit, List.getElem?_cons_zero, List.getElem?_cons_succ, List.set_cons_zero, List.set_cons_succ, List.nil_append, List.cons_append, List.append_nil, List.length_cons, List.length_nil, Nat.reduceSub, Nat.reduceLeDiff, Nat.zero_add, Option.bind_some, Option.map_some, reduceCtorEq, Int.reduceLT, Int.reduceLE, Int.reduceNeg, Int.reducePow, Int.reduceToNat, and_true, true_and, and_self, ite_true, ite_false, if_true, if_false, Bool.not_true, Bool.not_false, Bool.true_and, Bool.false_and, Bool.and_true, Bool.and_false, Bool.true_or, Bool.false_or, oSub, oNeg, oLt, oLe, oGt, oGe, oIs, oIsNot, Vs.isNon, oTru, oBl, oIx, oLen, oAbs, oIntC, oMax2, oMin2, oTupC, oLstC, oSl, keyD, decide_true, decide_false, plainE, fzE, gIx, List.filterMap_cons, List.filterMap_nil, wipeE, restE, List.all_cons, List.all_nil, List.getD_eq_getElem?_getD, Option.getD_some, oMod_ok, oFdiv_ok, oPow_lit, oMul_lit, oRepr_bl, oEq_str, oNe_str, oEq_int, oNe_int, oEq_bl, oNe_bl, oEq_nil, oNe_nil, oIsi_int, oIsi_bool, oIsi_listed, str_beq, b__law_item_1]
    refine picks _ _ W1 _ _ (.inl rfl) h1 (by omega) (by simp) (by simp) fun W2 y h2 hy => ?_
    simp only [k_ok, k_exc, kS_ok, kS_exc, kq_next, kq_ret, kq_brk, kq_cont, kq_exc, kq_retF, go_ok, go_exc, go_next, go_ret, go_brk, go_cont, go_excS, go_retF, go_some, go_v, getV_fz, go_c, go_bin, go_bin1, go_bin2, go_un, go_un1, go_tru, go_tru1, go_bl, go_bl1, go_and, go_andT, go_andF, go_or, go_orT, go_orF, go_not, go_not1, go_andV, go_orV, go_andV1, go_orV1, go_andVT, go_andVF, go_orVT, go_orVF, go_notV, go_notV1, go_notV2, go_if, go_ifT, go_ifF, go_nil, go_cons, go_cons1, go_cons2, go_chk, go_lst, go_tup, go_lst1, go_tup1, go_cal, go_cal1, go_isi, go_isi1, go_seq, go_sRet, go_ret1, go_sExpr, go_ex1, go_sIf, go_sifT, go_sifF, go_optS, go_sAsg, go_asg1, go_sSet, go_set1, go_sPar, go_par1, go_sAug, go_augV, kN_eq, kNil_eq, kCons_eq, kT_eq, rdE_eq, rdO_fz, rdO_ol, ownE_eq, owO_ol, go_binL, go_binL1, go_binL2, oSw_eq, go_binR, go_binR1, go_sPut, go_put1, go_putO, go_put2, go_putP, go_putN, go_retF1, go_fLst, go_fl1, go_sOwn, go_own1, go_call, go_call1, kFR_ok, kFR_exc, go_callIo, go_io0, go_io1, go_io2, kIo_ok, kIo_exc, go_callN, go_calln1, go_calln2, go_okF, go_excF, kRun_next, kRun_ret, kRun_exc, finF_none, finF_some, finS_ol, go_finO, go_finX, go_items, go_items_lst, go_items_tup, go_rng1, go_rng1_ok, go_rng2, go_rng2_ok, go_zip, go_zip_l, go_zip_t, go_enum, go_enum_l, go_sFor, go_for1, kLoop_next, kLoop_cont, kLoop_brk, kLoop_ret, kLoop_exc, turn_next, turn_cont, go_lc, go_lc1, kLc_ok, elem_ok, go_yes, go_sl, go_sl1, go_sl2, go_sl3, go_noP, go_p, go_p1, go_rev, go_rev1, go_chain, go_ch1, go_ch2, go_ch3T, go_ch3F, go_ch4, go_dic, go_dic1, go_prs_nil, go_prs, go_prs1, go_prs2, go_prs3, go_prs4, kW_ok, go_fcall, go_fcall1, kRunW_ok, go_okW, go_cf, go_cf1, oAdd_int, oAdd_bl, atI_0, atI_1, atI_2, atI_3, ixN_0, ixN_1, ixN_2, sz_lit, List.getElem?_cons_zero, List.getElem?_cons_succ, List.set_cons_zero, List.set_cons_succ, List.nil_append, List.cons_append, List.append_nil, List.length_cons, List.length_nil, Nat.reduceSub, Nat.reduceLeDiff, Nat.zero_add, Option.bind_some, Option.map_some, reduceCtorEq, Int.reduceLT, Int.reduceLE, Int.reduceNeg, Int.reducePow, Int.reduceToNat, and_true, true_and, and_self, ite_true, ite_false, if_true, if_false, Bool.not_true, Bool.not_false, Bool.true_and, Bool.false_and, Bool.and_true, Bool.and_false, Bool.true_or, Bool.false_or, oSub, oNeg, oLt, oLe, oGt, oGe, oIs, oIsNot, Vs.isNon, oTru, oBl, oIx, oLen, oAbs, oIntC, oMax2, oMin2, oTupC, oLstC, oSl, keyD, decide_true, decide_false, plainE, fzE, gIx, List.filterMap_cons, List.filterMap_nil, wipeE, restE, List.all_cons, List.all_nil, List.getD_eq_getElem?_getD, Option.getD_some, oMod_ok, oFdiv_ok, oPow_lit, oMul_lit, oRepr_bl, oEq_str, oNe_str, oEq_int, oNe_int, oEq_bl, oNe_bl, oEq_nil, oNe_nil, oIsi_int, oIsi_bool, oIsi_listed, str_beq]
    exact hK _ _ h2
theorem within_go {K : FR → Prop} {n : Nat} {W : List D} (h : Wl n W) (hn : n < 2 ^ 20) (hK : ∀ W', Wl (n + 14) W' → K (.ok (.bl true) (some W'))) : Go K (F__law_within_right (some W) []) := by
  rw [run__law_within_right]; unfold b__law_within_right
  simp only [k_ok, k_exc, kS_ok, kS_exc, kq_next, kq_ret, kq_brk, kq_cont, kq_exc, kq_retF, go_ok, go_exc, go_next, go_ret, go_brk, go_cont, go_excS, go_retF, go_some, go_v, getV_fz, go_c, go_bin, go_bin1, go_bin2, go_un, go_un1, go_tru, go_tru1, go_bl, go_bl1, go_and, go_andT, go_andF, go_or, go_orT, go_orF, go_not, go_not1, go_andV, go_orV, go_andV1, go_orV1, go_andVT, go_andVF, go_orVT, go_orVF, go_notV, go_notV1, go_notV2, go_if, go_ifT, go_ifF, go_nil, go_cons, go_cons1, go_cons2, go_chk, go_lst, go_tup, go_lst1, go_tup1, go_cal, go_cal1, go_isi, go_isi1, go_seq, go_sRet, go_ret1, go_sExpr, go_ex1, go_sIf, go_sifT, go_sifF, go_optS, go_sAsg, go_asg1, go_sSet, go_set1, go_sPar, go_par1, go_sAug, go_augV, kN_eq, kNil_eq, kCons_eq, kT_eq, rdE_eq, rdO_fz, rdO_ol, ownE_eq, owO_ol, go_binL, go_binL1, go_binL2, oSw_eq, go_binR, go_binR1, go_sPut, go_put1, go_putO, go_put2, go_putP, go_putN, go_retF1, go_fLst, go_fl1, go_sOwn, go_own1, go_call, go_call1, kFR_ok, kFR_exc, go_callIo, go_io0, go_io1, go_io2, kIo_ok, kIo_exc, go_callN, go_calln1, go_calln2, go_okF, go_excF, kRun_next, kRun_ret, kRun_exc, finF_none, finF_some, finS_ol, go_finO, go_finX, go_items, go_items_lst, go_items_tup, go_rng1, go_rng1_ok, go_rng2, go_rng2_ok, go_zip, go_zip_l, go_zip_t, go_enum, go_enum_l, go_sFor, go_for1, kLoop_next, kLoop_cont, kLoop_brk, kLoop_ret, kLoop_exc, turn_next, turn_cont, go_lc, go_lc1, kLc_ok, elem_ok, go_yes, go_sl, go_sl1, go_sl2, go_sl3, go_noP, go_p, go_p1, go_rev, go_rev1, go_chain, go_ch1, go_ch2, go_ch3T, go_ch3F, go_ch4, go_dic, go_dic1, go_prs_nil, go_prs, go_prs1, go_prs2, go_prs3, go_prs4, kW_ok, go_fcall, go_fcall1, kRunW_ok, go_okW, go_cf, go_cf1, oAdd_int, oAdd_bl, atI_0, atI_1, atI_2, atI_3, ixN_0, ixN_1, ixN_2, sz_lit, List.getElem?_cons_zero, List.getElem?_cons_succ, List.set_cons_zero, List.set_cons_succ, List.nil_append, List.cons_append, List.append_nil, List.length_cons, List.length_nil, Nat.reduceSub, Nat.reduceLeDiff, Nat.zero_add, Option.bind_some, Option.map_some, reduceCtorEq, Int.reduceLT, Int.reduceLE, Int.reduceNeg, Int.reducePow, Int.reduceToNat, and_true, true_and, and_self, ite_true, ite_false, if_true, if_false, Bool.not_true, Bool.not_false, Bool.true_and, Bool.false_and, Bool.and_true, Bool.and_false, Bool.true_or, Bool.false_or, oSub, oNeg, oLt, oLe, oGt, oGe, oIs, oIsNot, Vs.isNon, oTru, oBl, oIx, oLen, oAbs, oIntC, oMax2, oMin2, oTupC, oLstC, oSl, keyD, decide_true, decide_false, plainE, fzE, gIx, List.filterMap_cons, List.filterMap_nil, wipeE, restE, List.all_cons, List.all_nil, List.getD_eq_getElem?_getD, Option.getD_some, oMod_ok, oFdiv_ok, oPow_lit, oMul_lit, oRepr_bl, oEq_str, oNe_str, oEq_int, oNe_int, oEq_bl, oNe_bl, oEq_nil, oNe_nil, oIsi_int, oIsi_bool, oIsi_listed, str_beq]
  refine picks _ n W _ _ (.inl rfl) h (by omega) (by simp) (by simp) fun W1 x h1 hx => ?_
  obtain ⟨low, rfl⟩ : ∃ l, x = D.int l := by
    simp only [List.mem_cons, List.not_mem_nil, or_false] at hx
    rcases hx with rfl | rfl | rfl | rfl <;> exact ⟨_, rfl⟩
  simp only [k_ok, k_exc, kS_ok, kS_exc, kq_next, kq_ret, kq_brk, kq_cont, kq_exc, kq_retF, go_ok, go_exc, go_next, go_ret, go_brk, go_cont, go_excS, go_retF, go_some, go_v, getV_fz, go_c, go_bin, go_bin1, go_bin2, go_un, go_un1, go_tru, go_tru1, go_bl, go_bl1, go_and, go_andT, go_andF, go_or, go_orT, go_orF, go_not, go_not1, go_andV, go_orV, go_andV1, go_orV1, go_andVT, go_andVF, go_orVT, go_orVF, go_notV, go_notV1, go_notV2, go_if, go_ifT, go_ifF, go_nil, go_cons, go_cons1, go_cons2, go_chk, go_lst, go_tup, go_lst1, go_tup1, go_cal, go_cal1, go_isi, go_isi1, go_seq, go_sRet, go_ret1, go_sExpr, go_ex1, go_sIf, go_sifT, go_sifF, go_optS, go_sAsg, go_asg1, go_sSet, go_set1, go_sPar, go_par1, go_sAug, go_augV, kN_eq, kNil_eq, kCons_eq, kT_eq, rdE_eq, rdO_fz, rdO_ol, ownE_eq, owO_ol, go_binL, go_binL1, go_binL2, oSw_eq, go_binR, go_binR1, go_sPut, go_put1, go_putO, go_put2, go_putP, go_putN, go_retF1, go_fLst, go_fl1, go_sOwn, go_own1, go_call, go_call1, kFR_ok, kFR_exc, go_callIo, go_io0, go_io1, go_io2, kIo_ok, kIo_exc, go_callN, go_calln1, go_calln2, go_okF, go_excF, kRun_next, kRun_ret, kRun_exc, finF_none, finF_some, finS_ol, go_finO, go_finX, go_items, go_items_lst, go_items_tup, go_rng1, go_rng1_ok, go_rng2, go_rng2_ok, go_zip, go_zip_l, go_zip_t, go_enum, go_enum_l, go_sFor, go_for1, kLoop_next, kLoop_cont, kLoop_brk, kLoop_ret, kLoop_exc, turn_next, turn_cont, go_lc, go_lc1, kLc_ok, elem_ok, go_yes, go_sl, go_sl1, go_sl2, go_sl3, go_noP, go_p, go_p1, go_rev, go_rev1, go_chain, go_ch1, go_ch2, go_ch3T, go_ch3F, go_ch4, go_dic, go_dic1, go_prs_nil, go_prs, go_prs1, go_prs2, go_prs3, go_prs4, kW_ok, go_fcall, go_fcall1, kRunW_ok, go_okW, go_cf, go_cf1, oAdd_int, oAdd_bl, atI_0, atI_1, atI_2, atI_3, ixN_0, ixN_1, ixN_2, sz_lit, List.getElem?_cons_zero, List.getElem?_cons_succ, List.set_cons_zero, List.set_cons_succ, List.nil_append, List.cons_append, List.append_nil, List.length_cons, List.length_nil, Nat.reduceSub, Nat.reduceLeDiff, Nat.zero_add, Option.bind_some, Option.map_some, reduceCtorEq, Int.reduceLT, Int.reduceLE, Int.reduceNeg, Int.reducePow, Int.reduceToNat, and_true, true_and, and_self, ite_true, ite_false, if_true, if_false, Bool.not_true, Bool.not_false, Bool.true_and, Bool.false_and, Bool.and_true, Bool.and_false, Bool.true_or, Bool.false_or, oSub, oNeg, oLt, oLe, oGt, oGe, oIs, oIsNot, Vs.isNon, oTru, oBl, oIx, oLen, oAbs, oIntC, oMax2, oMin2, oTupC, oLstC, oSl, keyD, decide_true, decide_false, plainE, fzE, gIx, List.filterMap_cons, List.filterMap_nil, wipeE, restE, List.all_cons, List.all_nil, List.getD_eq_getElem?_getD, Option.getD_some, oMod_ok, oFdiv_ok, oPow_lit, oMul_lit, oRepr_bl, oEq_str, oNe_str, oEq_int, oNe_int, oEq_bl, oNe_bl, oEq_nil, oNe_nil, oIsi_int, oIsi_bool, oIsi_listed, str_beq, b__law_within_right_1]
  refine draws _ _ W1 _ h1 (by omega) (by omega) (by omega) fun W2 d h2 _ _ => ?_
  simp only [k_ok, k_exc, kS_ok, kS_exc, kq_next, kq_ret, kq_brk, kq_cont, kq_exc, kq_retF, go_ok, go_exc, go_next, go_ret, go_brk, go_cont, go_excS, go_retF, go_some, go_v, getV_fz, go_c, go_bin, go_bin1, go_bin2, go_un, go_un1, go_tru, go_tru1, go_bl, go_bl1, go_and, go_andT, go_andF, go_or, go_orT, go_orF, go_not, go_not1, go_andV, go_orV, go_andV1, go_orV1, go_andVT, go_andVF, go_orVT, go_orVF, go_notV, go_notV1, go_notV2, go_if, go_ifT, go_ifF, go_nil, go_cons, go_cons1, go_cons2, go_chk, go_lst, go_tup, go_lst1, go_tup1, go_cal, go_cal1, go_isi, go_isi1, go_seq, go_sRet, go_ret1, go_sExpr, go_ex1, go_sIf, go_sifT, go_sifF, go_optS, go_sAsg, go_asg1, go_sSet, go_set1, go_sPar, go_par1, go_sAug, go_augV, kN_eq, kNil_eq, kCons_eq, kT_eq, rdE_eq, rdO_fz, rdO_ol, ownE_eq, owO_ol, go_binL, go_binL1, go_binL2, oSw_eq, go_binR, go_binR1, go_sPut, go_put1, go_putO, go_put2, go_putP, go_putN, go_retF1, go_fLst, go_fl1, go_sOwn, go_own1, go_call, go_call1, kFR_ok, kFR_exc, go_callIo, go_io0, go_io1, go_io2, kIo_ok, kIo_exc, go_callN, go_calln1, go_calln2, go_okF, go_excF, kRun_next, kRun_ret, kRun_exc, finF_none, finF_some, finS_ol, go_finO, go_finX, go_items, go_items_lst, go_items_tup, go_rng1, go_rng1_ok, go_rng2, go_rng2_ok, go_zip, go_zip_l, go_zip_t, go_enum, go_enum_l, go_sFor, go_for1, kLoop_next, kLoop_cont, kLoop_brk, kLoop_ret, kLoop_exc, turn_next, turn_cont, go_lc, go_lc1, kLc_ok, elem_ok, go_yes, go_sl, go_sl1, go_sl2, go_sl3, go_noP, go_p, go_p1, go_rev, go_rev1, go_chain, go_ch1, go_ch2, go_ch3T, go_ch3F, go_ch4, go_dic, go_dic1, go_prs_nil, go_prs, go_prs1, go_prs2, go_prs3, go_prs4, kW_ok, go_fcall, go_fcall1, kRunW_ok, go_okW, go_cf, go_cf1, oAdd_int, oAdd_bl, atI_0, atI_1, atI_2, atI_3, ixN_0, ixN_1, ixN_2, sz_lit, List.getElem?_cons_zero, List.getElem?_cons_succ, List.set_cons_zero, List.set_cons_succ, List.nil_append, List.cons_append, List.append_nil, List.length_cons, List.length_nil, Nat.reduceSub, Nat.reduceLeDiff, Nat.zero_add, Option.bind_some, Option.map_some, reduceCtorEq, Int.reduceLT, Int.reduceLE, Int.reduceNeg, Int.reducePow, Int.reduceToNat, and_true, true_and, and_self, ite_true, ite_false, if_true, if_false, Bool.not_true, Bool.not_false, Bool.true_and, Bool.false_and, Bool.and_true, Bool.and_false, Bool.true_or, Bool.false_or, oSub, oNeg, oLt, oLe, oGt, oGe, oIs, oIsNot, Vs.isNon, oTru, oBl, oIx, oLen, oAbs, oIntC, oMax2, oMin2, oTupC, oLstC, oSl, keyD, decide_true, decide_false, plainE, fzE, gIx, List.filterMap_cons, List.filterMap_nil, wipeE, restE, List.all_cons, List.all_nil, List.getD_eq_getElem?_getD, Option.getD_some, oMod_ok, oFdiv_ok, oPow_lit, oMul_lit, oRepr_bl, oEq_str, oNe_str, oEq_int, oNe_int, oEq_bl, oNe_bl, oEq_nil, oNe_nil, oIsi_int, oIsi_bool, oIsi_listed, str_beq, b__law_within_right_2]
  refine go_loop (fun i e => ∃ W' a b c d', Wl (n + 2 + 2 * i) W' ∧ e = [some (.ol (some 0) W'), some (.fz (.int low)), some (.fz (.int (low + d))), a, b, c, d']) _ 0 _ ?_ ⟨_, _, _, _, _, h2, rfl⟩ ?_
  · rintro i z _ hi ⟨W', a, b, c, d', hw, rfl⟩
    have hi6 : i < 6 := by
      have := (List.getElem?_eq_some_iff.mp hi).1
      simpa [rngD] using this
    refine ⟨_, rfl, ?_⟩
    unfold l1__law_within_right
    simp only [k_ok, k_exc, kS_ok, kS_exc, kq_next, kq_ret, kq_brk, kq_cont, kq_exc, kq_retF, go_ok, go_exc, go_next, go_ret, go_brk, go_cont, go_excS, go_retF, go_some, go_v, getV_fz, go_c, go_bin, go_bin1, go_bin2, go_un, go_un1, go_tru, go_tru1, go_bl, go_bl1, go_and, go_andT, go_andF, go_or, go_orT, go_orF, go_not, go_not1, go_andV, go_orV, go_andV1, go_orV1, go_andVT, go_andVF, go_orVT, go_orVF, go_notV, go_notV1, go_notV2, go_if, go_ifT, go_ifF, go_nil, go_cons, go_cons1, go_cons2, go_chk, go_lst, go_tup, go_lst1, go_tup1, go_cal, go_cal1, go_isi, go_isi1, go_seq, go_sRet, go_ret1, go_sExpr, go_ex1, go_sIf, go_sifT, go_sifF, go_optS, go_sAsg, go_asg1, go_sSet, go_set1, go_sPar, go_par1, go_sAug, go_augV, kN_eq, kNil_eq, kCons_eq, kT_eq, rdE_eq, rdO_fz, rdO_ol, ownE_eq, owO_ol, go_binL, go_binL1, go_binL2, oSw_eq, go_binR, go_binR1, go_sPut, go_put1, go_putO, go_put2, go_putP, go_putN, go_retF1, go_fLst, go_fl1, go_sOwn, go_own1, go_call, go_call1, kFR_ok, kFR_exc, go_callIo, go_io0, go_io1, go_io2, kIo_ok, kIo_exc, go_callN, go_calln1, go_calln2, go_okF, go_excF, kRun_next, kRun_ret, kRun_exc, finF_none, finF_some, finS_ol, go_finO, go_finX, go_items, go_items_lst, go_items_tup, go_rng1, go_rng1_ok, go_rng2, go_rng2_ok, go_zip, go_zip_l, go_zip_t, go_enum, go_enum_l, go_sFor, go_for1, kLoop_next, kLoop_cont, kLoop_brk, kLoop_ret, kLoop_exc, turn_next, turn_cont, go_lc, go_lc1, kLc_ok, elem_ok, go_yes, go_sl, go_sl1, go_sl2, go_sl3, go_noP, go_p, go_p1, go_rev, go_rev1, go_chain, go_ch1, go_ch2, go_ch3T, go_ch3F, go_ch4, go_dic, go_dic1, go_prs_nil, go_prs, go_prs1, go_prs2, go_prs3, go_prs4, kW_ok, go_fcall, go_fcall1, kRunW_ok, go_okW, go_cf, go_cf1, oAdd_int, oAdd_bl, atI_0, atI_1, atI_2, atI_3, ixN_0, ixN_1, ixN_2, sz_lit, List.getElem?_cons_zero, List.getElem?_cons_succ, List.set_cons_zero, List.set_cons_succ, List.nil_append, List.cons_append, List.append_nil, List.length_cons, List.length_nil, Nat.reduceSub, Nat.reduceLeDiff, Nat.zero_add, Option.bind_some, Option.map_some, reduceCtorEq, Int.reduceLT, Int.reduceLE, Int.reduceNeg, Int.reducePow, Int.reduceToNat, and_true, true_and, and_self, ite_true, ite_false, if_true, if_false, Bool.not_true, Bool.not_false, Bool.true_and, Bool.false_and, Bool.and_true, Bool.and_false, Bool.true_or, Bool.false_or, oSub, oNeg, oLt, oLe, oGt, oGe, oIs, oIsNot, Vs.isNon, oTru, oBl, oIx, oLen, oAbs, oIntC, oMax2, oMin2, oTupC, oLstC, oSl, keyD, decide_true, decide_false, plainE, fzE, gIx, List.filterMap_cons, List.filterMap_nil, wipeE, restE, List.all_cons, List.all_nil, List.getD_eq_getElem?_getD, Option.getD_some, oMod_ok, oFdiv_ok, oPow_lit, oMul_lit, oRepr_bl, oEq_str, oNe_str, oEq_int, oNe_int, oEq_bl, oNe_bl, oEq_nil, oNe_nil, oIsi_int, oIsi_bool, oIsi_listed, str_beq]
    refine item_go hw (by omega) fun W3 x h3 => ?_
    simp only [k_ok, k_exc, kS_ok, kS_exc, kq_next, kq_ret, kq_brk, kq_cont, kq_exc, kq_retF, go_ok, go_exc, go_next, go_ret, go_brk, go_cont, go_excS, go_retF, go_some, go_v, getV_fz, go_c, go_bin, go_bin1, go_bin2, go_un, go_un1, go_tru, go_tru1, go_bl, go_bl1, go_and, go_andT, go_andF, go_or, go_orT, go_orF, go_not, go_not1, go_andV, go_orV, go_andV1, go_orV1, go_andVT, go_andVF, go_orVT, go_orVF, go_notV, go_notV1, go_notV2, go_if, go_ifT, go_ifF, go_nil, go_cons, go_cons1, go_cons2, go_chk, go_lst, go_tup, go_lst1, go_tup1, go_cal, go_cal1, go_isi, go_isi1, go_seq, go_sRet, go_ret1, go_sExpr, go_ex1, go_sIf, go_sifT, go_sifF, go_optS, go_sAsg, go_asg1, go_sSet, go_set1, go_sPar, go_par1, go_sAug, go_augV, kN_eq, kNil_eq, kCons_eq, kT_eq, rdE_eq, rdO_fz, rdO_ol, ownE_eq, owO_ol, go_binL, go_binL1, go_binL2, oSw_eq, go_binR, go_binR1, go_sPut, go_put1, go_putO, go_put2, go_putP, go_putN, go_retF1, go_fLst, go_fl1, go_sOwn, go_own1, go_call, go_call1, kFR_ok, kFR_exc, go_callIo, go_io0, go_io1, go_io2, kIo_ok, kIo_exc, go_callN, go_calln1, go_calln2, go_okF, go_excF, kRun_next, kRun_ret, kRun_exc, finF_none, finF_some, finS_ol, go_finO, go_finX, go_items, go_items_lst, go_items_tup, go_rng1, go_rng1_ok, go_rng2, go_rng2_ok, go_zip, go_zip_l, go_zip_t, go_enum, go_enum_l, go_sFor, go_for1, kLoop_next, kLoop_cont, kLoop_brk, kLoop_ret, kLoop_exc, turn_next, turn_cont, go_lc, go_lc1, kLc_ok, elem_ok, go_yes, go_sl, go_sl1, go_sl2, go_sl3, go_noP, go_p, go_p1, go_rev, go_rev1, go_chain, go_ch1, go_ch2, go_ch3T, go_ch3F, go_ch4, go_dic, go_dic1, go_prs_nil, go_prs, go_prs1, go_prs2, go_prs3, go_prs4, kW_ok, go_fcall, go_fcall1, kRunW_ok, go_okW, go_cf, go_cf1, oAdd_int, oAdd_bl, atI_0, atI_1, atI_2, atI_3, ixN_0, ixN_1, ixN_2, sz_lit, List.getElem?_cons_zero, List.getElem?_cons_succ, List.set_cons_zero, List.set_cons_succ, List.nil_append, List.cons_append, List.append_nil, List.length_cons, List.length_nil, Nat.reduceSub, Nat.reduceLeDiff, Nat.zero_add, Option.bind_some, Option.map_some, reduceCtorEq, Int.reduceLT, Int.reduceLE, Int.reduceNeg, Int.reducePow, Int.reduceToNat, and_true, true_and, and_self, ite_true, ite_false, if_true, if_false, Bool.not_true, Bool.not_false, Bool.true_and, Bool.false_and, Bool.and_true, Bool.and_false, Bool.true_or, Bool.false_or, oSub, oNeg, oLt, oLe, oGt, oGe, oIs, oIsNot, Vs.isNon, oTru, oBl, oIx, oLen, oAbs, oIntC, oMax2, oMin2, oTupC, oLstC, oSl, keyD, decide_true, decide_false, plainE, fzE, gIx, List.filterMap_cons, List.filterMap_nil, wipeE, restE, List.all_cons, List.all_nil, List.getD_eq_getElem?_getD, Option.getD_some, oMod_ok, oFdiv_ok, oPow_lit, oMul_lit, oRepr_bl, oEq_str, oNe_str, oEq_int, oNe_int, oEq_bl, oNe_bl, oEq_nil, oNe_nil, oIsi_int, oIsi_bool, oIsi_listed, str_beq, l1__law_within_right_1]
    refine go_loop (fun i e => ∃ a b, e = [some (.ol (some 0) W3), some (.fz (.int low)), some (.fz (.int (low + d))), some (.fz z), some (.fz x), a, b]) _ 0 _ ?_ ⟨_, _, rfl⟩ ?_
    · rintro j y _ hj ⟨a, b, rfl⟩
      obtain ⟨lo, hi', rfl, q1, q2⟩ : ∃ lo hi', y = D.tup [lo, hi'] ∧ Lim lo ∧ Lim hi' := by
        have := List.mem_of_getElem? hj
        simp only [List.mem_cons, List.not_mem_nil, or_false] at this
        rcases this with rfl | rfl | rfl | rfl <;> exact ⟨_, _, rfl, trivial, trivial⟩
      refine ⟨_, rfl, ?_⟩
      unfold l2__law_within_right
      simp only [k_ok, k_exc, kS_ok, kS_exc, kq_next, kq_ret, kq_brk, kq_cont, kq_exc, kq_retF, go_ok, go_exc, go_next, go_ret, go_brk, go_cont, go_excS, go_retF, go_some, go_v, getV_fz, go_c, go_bin, go_bin1, go_bin2, go_un, go_un1, go_tru, go_tru1, go_bl, go_bl1, go_and, go_andT, go_andF, go_or, go_orT, go_orF, go_not, go_not1, go_andV, go_orV, go_andV1, go_orV1, go_andVT, go_andVF, go_orVT, go_orVF, go_notV, go_notV1, go_notV2, go_if, go_ifT, go_ifF, go_nil, go_cons, go_cons1, go_cons2, go_chk, go_lst, go_tup, go_lst1, go_tup1, go_cal, go_cal1, go_isi, go_isi1, go_seq, go_sRet, go_ret1, go_sExpr, go_ex1, go_sIf, go_sifT, go_sifF, go_optS, go_sAsg, go_asg1, go_sSet, go_set1, go_sPar, go_par1, go_sAug, go_augV, kN_eq, kNil_eq, kCons_eq, kT_eq, rdE_eq, rdO_fz, rdO_ol, ownE_eq, owO_ol, go_binL, go_binL1, go_binL2, oSw_eq, go_binR, go_binR1, go_sPut, go_put1, go_putO, go_put2, go_putP, go_putN, go_retF1, go_fLst, go_fl1, go_sOwn, go_own1, go_call, go_call1, kFR_ok, kFR_exc, go_callIo, go_io0, go_io1, go_io2, kIo_ok, kIo_exc, go_callN, go_calln1, go_calln2, go_okF, go_excF, kRun_next, kRun_ret, kRun_exc, finF_none, finF_some, finS_ol, go_finO, go_finX, go_items, go_items_lst, go_items_tup, go_rng1, go_rng1_ok, go_rng2, go_rng2_ok, go_zip, go_zip_l, go_zip_t, go_enum, go_enum_l, go_sFor, go_for1, kLoop_next, kLoop_cont, kLoop_brk, kLoop_ret, kLoop_exc, turn_next, turn_cont, go_lc, go_lc1, kLc_ok, elem_ok, go_yes, go_sl, go_sl1, go_sl2, go_sl3, go_noP, go_p, go_p1, go_rev, go_rev1, go_chain, go_ch1, go_ch2, go_ch3T, go_ch3F, go_ch4, go_dic, go_dic1, go_prs_nil, go_prs, go_prs1, go_prs2, go_prs3, go_prs4, kW_ok, go_fcall, go_fcall1, kRunW_ok, go_okW, go_cf, go_cf1, oAdd_int, oAdd_bl, atI_0, atI_1, atI_2, atI_3, ixN_0, ixN_1, ixN_2, sz_lit, List.getElem?_cons_zero, List.getElem?_cons_succ, List.set_cons_zero, List.set_cons_succ, List.nil_append, List.cons_append, List.append_nil, List.length_cons, List.length_nil, Nat.reduceSub, Nat.reduceLeDiff, Nat.zero_add, Option.bind_some, Option.map_some, reduceCtorEq, Int.reduceLT, Int.reduceLE, Int.reduceNeg, Int.reducePow, Int.reduceToNat, and_true, true_and, and_self, ite_true, ite_false, if_true, if_false, Bool.not_true, Bool.not_false, Bool.true_and, Bool.false_and, Bool.and_true, Bool.and_false, Bool.true_or, Bool.false_or, oSub, oNeg, oLt, oLe, oGt, oGe, oIs, oIsNot, Vs.isNon, oTru, oBl, oIx, oLen, oAbs, oIntC, oMax2, oMin2, oTupC, oLstC, oSl, keyD, decide_true, decide_false, plainE, fzE, gIx, List.filterMap_cons, List.filterMap_nil, wipeE, restE, List.all_cons, List.all_nil, List.getD_eq_getElem?_getD, Option.getD_some, oMod_ok, oFdiv_ok, oPow_lit, oMul_lit, oRepr_bl, oEq_str, oNe_str, oEq_int, oNe_int, oEq_bl, oNe_bl, oEq_nil, oNe_nil, oIsi_int, oIsi_bool, oIsi_listed, str_beq, v_is_within _ _ _ q1 q2, v_fits _ _ _ q1 q2, turn_next]
      exact ⟨_, _, rfl⟩
    · rintro _ ⟨a, b, rfl⟩
      simp only [k_ok, k_exc, kS_ok, kS_exc, kq_next, kq_ret, kq_brk, kq_cont, kq_exc, kq_retF, go_ok, go_exc, go_next, go_ret, go_brk, go_cont, go_excS, go_retF, go_some, go_v, getV_fz, go_c, go_bin, go_bin1, go_bin2, go_un, go_un1, go_tru, go_tru1, go_bl, go_bl1, go_and, go_andT, go_andF, go_or, go_orT, go_orF, go_not, go_not1, go_andV, go_orV, go_andV1, go_orV1, go_andVT, go_andVF, go_orVT, go_orVF, go_notV, go_notV1, go_notV2, go_if, go_ifT, go_ifF, go_nil, go_cons, go_cons1, go_cons2, go_chk, go_lst, go_tup, go_lst1, go_tup1, go_cal, go_cal1, go_isi, go_isi1, go_seq, go_sRet, go_ret1, go_sExpr, go_ex1, go_sIf, go_sifT, go_sifF, go_optS, go_sAsg, go_asg1, go_sSet, go_set1, go_sPar, go_par1, go_sAug, go_augV, kN_eq, kNil_eq, kCons_eq, kT_eq, rdE_eq, rdO_fz, rdO_ol, ownE_eq, owO_ol, go_binL, go_binL1, go_binL2, oSw_eq, go_binR, go_binR1, go_sPut, go_put1, go_putO, go_put2, go_putP, go_putN, go_retF1, go_fLst, go_fl1, go_sOwn, go_own1, go_call, go_call1, kFR_ok, kFR_exc, go_callIo, go_io0, go_io1, go_io2, kIo_ok, kIo_exc, go_callN, go_calln1, go_calln2, go_okF, go_excF, kRun_next, kRun_ret, kRun_exc, finF_none, finF_some, finS_ol, go_finO, go_finX, go_items, go_items_lst, go_items_tup, go_rng1, go_rng1_ok, go_rng2, go_rng2_ok, go_zip, go_zip_l, go_zip_t, go_enum, go_enum_l, go_sFor, go_for1, kLoop_next, kLoop_cont, kLoop_brk, kLoop_ret, kLoop_exc, turn_next, turn_cont, go_lc, go_lc1, kLc_ok, elem_ok, go_yes, go_sl, go_sl1, go_sl2, go_sl3, go_noP, go_p, go_p1, go_rev, go_rev1, go_chain, go_ch1, go_ch2, go_ch3T, go_ch3F, go_ch4, go_dic, go_dic1, go_prs_nil, go_prs, go_prs1, go_prs2, go_prs3, go_prs4, kW_ok, go_fcall, go_fcall1, kRunW_ok, go_okW, go_cf, go_cf1, oAdd_int, oAdd_bl, atI_0, atI_1, atI_2, atI_3, ixN_0, ixN_1, ixN_2, sz_lit, List.getElem?_cons_zero, List.getElem?_cons_succ, List.set_cons_zero, List.set_cons_succ, List.nil_append, List.cons_append, List.append_nil, List.length_cons, List.length_nil, Nat.reduceSub, Nat.reduceLeDiff, Nat.zero_add, Option.bind_some, Option.map_some, reduceCtorEq, Int.reduceLT, Int.reduceLE, Int.reduceNeg, Int.reducePow, Int.reduceToNat, and_true, true_and, and_self, ite_true, ite_false, if_true, if_false, Bool.not_true, Bool.not_false, Bool.true_and, Bool.false_and, Bool.and_true, Bool.and_false, Bool.true_or, Bool.false_or, oSub, oNeg, oLt, oLe, oGt, oGe, oIs, oIsNot, Vs.isNon, oTru, oBl, oIx, oLen, oAbs, oIntC, oMax2, oMin2, oTupC, oLstC, oSl, keyD, decide_true, decide_false, plainE, fzE, gIx, List.filterMap_cons, List.filterMap_nil, wipeE, restE, List.all_cons, List.all_nil, List.getD_eq_getElem?_getD, Option.getD_some, oMod_ok, oFdiv_ok, oPow_lit, oMul_lit, oRepr_bl, oEq_str, oNe_str, oEq_int, oNe_int, oEq_bl, oNe_bl, oEq_nil, oNe_nil, oIsi_int, oIsi_bool, oIsi_listed, str_beq, l1__law_within_right_2, v_is_integer, v_plain]
      exact ⟨_, _, _, _, _, h3.mono (by omega), rfl⟩
  · rintro _ ⟨W', a, b, c, d', hw, rfl⟩
    simp only [k_ok, k_exc, kS_ok, kS_exc, kq_next, kq_ret, kq_brk, kq_cont, kq_exc, kq_retF, go_ok, go_exc, go_next, go_ret, go_brk, go_cont, go_excS, go_retF, go_some, go_v, getV_fz, go_c, go_bin, go_bin1, go_bin2, go_un, go_un1, go_tru, go_tru1, go_bl, go_bl1, go_and, go_andT, go_andF, go_or, go_orT, go_orF, go_not, go_not1, go_andV, go_orV, go_andV1, go_orV1, go_andVT, go_andVF, go_orVT, go_orVF, go_notV, go_notV1, go_notV2, go_if, go_ifT, go_ifF, go_nil, go_cons, go_cons1, go_cons2, go_chk, go_lst, go_tup, go_lst1, go_tup1, go_cal, go_cal1, go_isi, go_isi1, go_seq, go_sRet, go_ret1, go_sExpr, go_ex1, go_sIf, go_sifT, go_sifF, go_optS, go_sAsg, go_asg1, go_sSet, go_set1, go_sPar, go_par1, go_sAug, go_augV, kN_eq, kNil_eq, kCons_eq, kT_eq, rdE_eq, rdO_fz, rdO_ol, ownE_eq, owO_ol, go_binL, go_binL1, go_binL2, oSw_eq, go_binR, go_binR1, go_sPut, go_put1, go_putO, go_put2, go_putP, go_putN, go_retF1, go_fLst, go_fl1, go_sOwn, go_own1, go_call, go_call1, kFR_ok, kFR_exc, go_callIo, go_io0, go_io1, go_io2, kIo_ok, kIo_exc, go_callN, go_calln1, go_calln2, go_okF, go_excF, kRun_next, kRun_ret, kRun_exc, finF_none, finF_some, finS_ol, go_finO, go_finX, go_items, go_items_lst, go_items_tup, go_rng1, go_rng1_ok, go_rng2, go_rng2_ok, go_zip, go_zip_l, go_zip_t, go_enum, go_enum_l, go_sFor, go_for1, kLoop_next, kLoop_cont, kLoop_brk, kLoop_ret, kLoop_exc, turn_next, turn_cont, go_lc, go_lc1, kLc_ok, elem_ok, go_yes, go_sl, go_sl1, go_sl2, go_sl3, go_noP, go_p, go_p1, go_rev, go_rev1, go_chain, go_ch1, go_ch2, go_ch3T, go_ch3F, go_ch4, go_dic, go_dic1, go_prs_nil, go_prs, go_prs1, go_prs2, go_prs3, go_prs4, kW_ok, go_fcall, go_fcall1, kRunW_ok, go_okW, go_cf, go_cf1, oAdd_int, oAdd_bl, atI_0, atI_1, atI_2, atI_3, ixN_0, ixN_1, ixN_2, sz_lit, List.getElem?_cons_zero, List.getElem?_cons_succ, List.set_cons_zero, List.set_cons_succ, List.nil_append, List.cons_append, List.append_nil, List.length_cons, List.length_nil, Nat.reduceSub, Nat.reduceLeDiff, Nat.zero_add, Option.bind_some, Option.map_some, reduceCtorEq, Int.reduceLT, Int.reduceLE, Int.reduceNeg, Int.reducePow, Int.reduceToNat, and_true, true_and, and_self, ite_true, ite_false, if_true, if_false, Bool.not_true, Bool.not_false, Bool.true_and, Bool.false_and, Bool.and_true, Bool.and_false, Bool.true_or, Bool.false_or, oSub, oNeg, oLt, oLe, oGt, oGe, oIs, oIsNot, Vs.isNon, oTru, oBl, oIx, oLen, oAbs, oIntC, oMax2, oMin2, oTupC, oLstC, oSl, keyD, decide_true, decide_false, plainE, fzE, gIx, List.filterMap_cons, List.filterMap_nil, wipeE, restE, List.all_cons, List.all_nil, List.getD_eq_getElem?_getD, Option.getD_some, oMod_ok, oFdiv_ok, oPow_lit, oMul_lit, oRepr_bl, oEq_str, oNe_str, oEq_int, oNe_int, oEq_bl, oNe_bl, oEq_nil, oNe_nil, oIsi_int, oIsi_bool, oIsi_listed, str_beq, b__law_within_right_3, finF_some, finS_ol]
    exact hK _ (hw.mono (by simp [rngD]))
theorem row_go {K : FR → Prop} {n : Nat} {W : List D} {m l u : Int} (h : Wl n W) (hn : n < 2 ^ 20) (hm0 : 0 ≤ m) (hm : m < 100) (hlu : u - l < 1000) (hK : ∀ W' x, Wl (n + m.toNat + 7) W' → Fine x → K (.ok x (some W'))) : Go K (F__law_row (some W) [.int m, .int l, .int u]) := by
  rw [run__law_row]; unfold b__law_row
  have hr : -(2 ^ 62) ≤ m ∧ m < 2 ^ 62 := by omega
  simp only [k_ok, k_exc, kS_ok, kS_exc, kq_next, kq_ret, kq_brk, kq_cont, kq_exc, kq_retF, go_ok, go_exc, go_next, go_ret, go_brk, go_cont, go_excS, go_retF, go_some, go_v, getV_fz, go_c, go_bin, go_bin1, go_bin2, go_un, go_un1, go_tru, go_tru1, go_bl, go_bl1, go_and, go_andT, go_andF, go_or, go_orT, go_orF, go_not, go_not1, go_andV, go_orV, go_andV1, go_orV1, go_andVT, go_andVF, go_orVT, go_orVF, go_notV, go_notV1, go_notV2, go_if, go_ifT, go_ifF, go_nil, go_cons, go_cons1, go_cons2, go_chk, go_lst, go_tup, go_lst1, go_tup1, go_cal, go_cal1, go_isi, go_isi1, go_seq, go_sRet, go_ret1, go_sExpr, go_ex1, go_sIf, go_sifT, go_sifF, go_optS, go_sAsg, go_asg1, go_sSet, go_set1, go_sPar, go_par1, go_sAug, go_augV, kN_eq, kNil_eq, kCons_eq, kT_eq, rdE_eq, rdO_fz, rdO_ol, ownE_eq, owO_ol, go_binL, go_binL1, go_binL2, oSw_eq, go_binR, go_binR1, go_sPut, go_put1, go_putO, go_put2, go_putP, go_putN, go_retF1, go_fLst, go_fl1, go_sOwn, go_own1, go_call, go_call1, kFR_ok, kFR_exc, go_callIo, go_io0, go_io1, go_io2, kIo_ok, kIo_exc, go_callN, go_calln1, go_calln2, go_okF, go_excF, kRun_next, kRun_ret, kRun_exc, finF_none, finF_some, finS_ol, go_finO, go_finX, go_items, go_items_lst, go_items_tup, go_rng1, go_rng1_ok, go_rng2, go_rng2_ok, go_zip, go_zip_l, go_zip_t, go_enum, go_enum_l, go_sFor, go_for1, kLoop_next, kLoop_cont, kLoop_brk, kLoop_ret, kLoop_exc, turn_next, turn_cont, go_lc, go_lc1, kLc_ok, elem_ok, go_yes, go_sl, go_sl1, go_sl2, go_sl3, go_noP, go_p, go_p1, go_rev, go_rev1, go_chain, go_ch1, go_ch2, go_ch3T, go_ch3F, go_ch4, go_dic, go_dic1, go_prs_nil, go_prs, go_prs1, go_prs2, go_prs3, go_prs4, kW_ok, go_fcall, go_fcall1, kRunW_ok, go_okW, go_cf, go_cf1, oAdd_int, oAdd_bl, atI_0, atI_1, atI_2, atI_3, ixN_0, ixN_1, ixN_2, sz_lit, List.getElem?_cons_zero, List.getElem?_cons_succ, List.set_cons_zero, List.set_cons_succ, List.nil_append, List.cons_append, List.append_nil, List.length_cons, List.length_nil, Nat.reduceSub, Nat.reduceLeDiff, Nat.zero_add, Option.bind_some, Option.map_some, reduceCtorEq, Int.reduceLT, Int.reduceLE, Int.reduceNeg, Int.reducePow, Int.reduceToNat, and_true, true_and, and_self, ite_true, ite_false, if_true, if_false, Bool.not_true, Bool.not_false, Bool.true_and, Bool.false_and, Bool.and_true, Bool.and_false, Bool.true_or, Bool.false_or, oSub, oNeg, oLt, oLe, oGt, oGe, oIs, oIsNot, Vs.isNon, oTru, oBl, oIx, oLen, oAbs, oIntC, oMax2, oMin2, oTupC, oLstC, oSl, keyD, decide_true, decide_false, plainE, fzE, gIx, List.filterMap_cons, List.filterMap_nil, wipeE, restE, List.all_cons, List.all_nil, List.getD_eq_getElem?_getD, Option.getD_some, oMod_ok, oFdiv_ok, oPow_lit, oMul_lit, oRepr_bl, oEq_str, oNe_str, oEq_int, oNe_int, oEq_bl, oNe_bl, oEq_nil, oNe_nil, oIsi_int, oIsi_bool, oIsi_listed, str_beq, go_rng1_ok hr]
  have hlen : (rngD 0 m.toNat).length = m.toNat := by simp [rngD]
  refine go_loopC (fun i acc e => ∃ W', Wl (n + i) W' ∧ acc.length ≤ i ∧ e = [some (.ol (some 0) W'), some (.fz (.int m)), some (.fz (.int l)), some (.fz (.int u)), none, none, none]) _ 0 [] _ _ ?_ ⟨_, h, by simp, rfl⟩ ?_
  · rintro i d acc _ hi ⟨W', hw, hacc, rfl⟩
    have hi6 : i < m.toNat := by
      have := (List.getElem?_eq_some_iff.mp hi).1
      omega
    refine ⟨_, rfl, ?_⟩
    simp only [k_ok, k_exc, kS_ok, kS_exc, kq_next, kq_ret, kq_brk, kq_cont, kq_exc, kq_retF, go_ok, go_exc, go_next, go_ret, go_brk, go_cont, go_excS, go_retF, go_some, go_v, getV_fz, go_c, go_bin, go_bin1, go_bin2, go_un, go_un1, go_tru, go_tru1, go_bl, go_bl1, go_and, go_andT, go_andF, go_or, go_orT, go_orF, go_not, go_not1, go_andV, go_orV, go_andV1, go_orV1, go_andVT, go_andVF, go_orVT, go_orVF, go_notV, go_notV1, go_notV2, go_if, go_ifT, go_ifF, go_nil, go_cons, go_cons1, go_cons2, go_chk, go_lst, go_tup, go_lst1, go_tup1, go_cal, go_cal1, go_isi, go_isi1, go_seq, go_sRet, go_ret1, go_sExpr, go_ex1, go_sIf, go_sifT, go_sifF, go_optS, go_sAsg, go_asg1, go_sSet, go_set1, go_sPar, go_par1, go_sAug, go_augV, kN_eq, kNil_eq, kCons_eq, kT_eq, rdE_eq, rdO_fz, rdO_ol, ownE_eq, owO_ol, go_binL, go_binL1, go_binL2, oSw_eq, go_binR, go_binR1, go_sPut, go_put1, go_putO, go_put2, go_putP, go_putN, go_retF1, go_fLst, go_fl1, go_sOwn, go_own1, go_call, go_call1, kFR_ok, kFR_exc, go_callIo, go_io0, go_io1, go_io2, kIo_ok, kIo_exc, go_callN, go_calln1, go_calln2, go_okF, go_excF, kRun_next, kRun_ret, kRun_exc, finF_none, finF_some, finS_ol, go_finO, go_finX, go_items, go_items_lst, go_items_tup, go_rng1, go_rng1_ok, go_rng2, go_rng2_ok, go_zip, go_zip_l, go_zip_t, go_enum, go_enum_l, go_sFor, go_for1, kLoop_next, kLoop_cont, kLoop_brk, kLoop_ret, kLoop_exc, turn_next, turn_cont, go_lc, go_lc1, kLc_ok, elem_ok, go_yes, go_sl, go_sl1, go_sl2, go_sl3, go_noP, go_p, go_p1, go_rev, go_rev1, go_chain, go_ch1, go_ch2, go_ch3T, go_ch3F, go_ch4, go_dic, go_dic1, go_prs_nil, go_prs, go_prs1, go_prs2, go_prs3, go_prs4, kW_ok, go_fcall, go_fcall1, kRunW_ok, go_okW, go_cf, go_cf1, oAdd_int, oAdd_bl, atI_0, atI_1, atI_2, atI_3, ixN_0, ixN_1, ixN_2, sz_lit, List.getElem?_cons_zero, List.getElem?_cons_succ, List.set_cons_zero, List.set_cons_succ, List.nil_append, List.cons_append, List.append_nil, List.length_cons, List.length_nil, Nat.reduceSub, Nat.reduceLeDiff, Nat.zero_add, Option.bind_some, Option.map_some, reduceCtorEq, Int.reduceLT, Int.reduceLE, Int.reduceNeg, Int.reducePow, Int.reduceToNat, and_true, true_and, and_self, ite_true, ite_false, if_true, if_false, Bool.not_true, Bool.not_false, Bool.true_and, Bool.false_and, Bool.and_true, Bool.and_false, Bool.true_or, Bool.false_or, oSub, oNeg, oLt, oLe, oGt, oGe, oIs, oIsNot, Vs.isNon, oTru, oBl, oIx, oLen, oAbs, oIntC, oMax2, oMin2, oTupC, oLstC, oSl, keyD, decide_true, decide_false, plainE, fzE, gIx, List.filterMap_cons, List.filterMap_nil, wipeE, restE, List.all_cons, List.all_nil, List.getD_eq_getElem?_getD, Option.getD_some, oMod_ok, oFdiv_ok, oPow_lit, oMul_lit, oRepr_bl, oEq_str, oNe_str, oEq_int, oNe_int, oEq_bl, oNe_bl, oEq_nil, oNe_nil, oIsi_int, oIsi_bool, oIsi_listed, str_beq]
    rw [test_ok]
    refine ⟨fun _ => ?_, fun z => by cases z⟩
    simp only [k_ok, k_exc, kS_ok, kS_exc, kq_next, kq_ret, kq_brk, kq_cont, kq_exc, kq_retF, go_ok, go_exc, go_next, go_ret, go_brk, go_cont, go_excS, go_retF, go_some, go_v, getV_fz, go_c, go_bin, go_bin1, go_bin2, go_un, go_un1, go_tru, go_tru1, go_bl, go_bl1, go_and, go_andT, go_andF, go_or, go_orT, go_orF, go_not, go_not1, go_andV, go_orV, go_andV1, go_orV1, go_andVT, go_andVF, go_orVT, go_orVF, go_notV, go_notV1, go_notV2, go_if, go_ifT, go_ifF, go_nil, go_cons, go_cons1, go_cons2, go_chk, go_lst, go_tup, go_lst1, go_tup1, go_cal, go_cal1, go_isi, go_isi1, go_seq, go_sRet, go_ret1, go_sExpr, go_ex1, go_sIf, go_sifT, go_sifF, go_optS, go_sAsg, go_asg1, go_sSet, go_set1, go_sPar, go_par1, go_sAug, go_augV, kN_eq, kNil_eq, kCons_eq, kT_eq, rdE_eq, rdO_fz, rdO_ol, ownE_eq, owO_ol, go_binL, go_binL1, go_binL2, oSw_eq, go_binR, go_binR1, go_sPut, go_put1, go_putO, go_put2, go_putP, go_putN, go_retF1, go_fLst, go_fl1, go_sOwn, go_own1, go_call, go_call1, kFR_ok, kFR_exc, go_callIo, go_io0, go_io1, go_io2, kIo_ok, kIo_exc, go_callN, go_calln1, go_calln2, go_okF, go_excF, kRun_next, kRun_ret, kRun_exc, finF_none, finF_some, finS_ol, go_finO, go_finX, go_items, go_items_lst, go_items_tup, go_rng1, go_rng1_ok, go_rng2, go_rng2_ok, go_zip, go_zip_l, go_zip_t, go_enum, go_enum_l, go_sFor, go_for1, kLoop_next, kLoop_cont, kLoop_brk, kLoop_ret, kLoop_exc, turn_next, turn_cont, go_lc, go_lc1, kLc_ok, elem_ok, go_yes, go_sl, go_sl1, go_sl2, go_sl3, go_noP, go_p, go_p1, go_rev, go_rev1, go_chain, go_ch1, go_ch2, go_ch3T, go_ch3F, go_ch4, go_dic, go_dic1, go_prs_nil, go_prs, go_prs1, go_prs2, go_prs3, go_prs4, kW_ok, go_fcall, go_fcall1, kRunW_ok, go_okW, go_cf, go_cf1, oAdd_int, oAdd_bl, atI_0, atI_1, atI_2, atI_3, ixN_0, ixN_1, ixN_2, sz_lit, List.getElem?_cons_zero, List.getElem?_cons_succ, List.set_cons_zero, List.set_cons_succ, List.nil_append, List.cons_append, List.append_nil, List.length_cons, List.length_nil, Nat.reduceSub, Nat.reduceLeDiff, Nat.zero_add, Option.bind_some, Option.map_some, reduceCtorEq, Int.reduceLT, Int.reduceLE, Int.reduceNeg, Int.reducePow, Int.reduceToNat, and_true, true_and, and_self, ite_true, ite_false, if_true, if_false, Bool.not_true, Bool.not_false, Bool.true_and, Bool.false_and, Bool.and_true, Bool.and_false, Bool.true_or, Bool.false_or, oSub, oNeg, oLt, oLe, oGt, oGe, oIs, oIsNot, Vs.isNon, oTru, oBl, oIx, oLen, oAbs, oIntC, oMax2, oMin2, oTupC, oLstC, oSl, keyD, decide_true, decide_false, plainE, fzE, gIx, List.filterMap_cons, List.filterMap_nil, wipeE, restE, List.all_cons, List.all_nil, List.getD_eq_getElem?_getD, Option.getD_some, oMod_ok, oFdiv_ok, oPow_lit, oMul_lit, oRepr_bl, oEq_str, oNe_str, oEq_int, oNe_int, oEq_bl, oNe_bl, oEq_nil, oNe_nil, oIsi_int, oIsi_bool, oIsi_listed, str_beq]
    refine draws _ _ W' _ hw (by omega) (by split <;> omega) (by split <;> omega) fun W1 x h1 _ _ => ?_
    simp only [k_ok, k_exc, kS_ok, kS_exc, kq_next, kq_ret, kq_brk, kq_cont, kq_exc, kq_retF, go_ok, go_exc, go_next, go_ret, go_brk, go_cont, go_excS, go_retF, go_some, go_v, getV_fz, go_c, go_bin, go_bin1, go_bin2, go_un, go_un1, go_tru, go_tru1, go_bl, go_bl1, go_and, go_andT, go_andF, go_or, go_orT, go_orF, go_not, go_not1, go_andV, go_orV, go_andV1, go_orV1, go_andVT, go_andVF, go_orVT, go_orVF, go_notV, go_notV1, go_notV2, go_if, go_ifT, go_ifF, go_nil, go_cons, go_cons1, go_cons2, go_chk, go_lst, go_tup, go_lst1, go_tup1, go_cal, go_cal1, go_isi, go_isi1, go_seq, go_sRet, go_ret1, go_sExpr, go_ex1, go_sIf, go_sifT, go_sifF, go_optS, go_sAsg, go_asg1, go_sSet, go_set1, go_sPar, go_par1, go_sAug, go_augV, kN_eq, kNil_eq, kCons_eq, kT_eq, rdE_eq, rdO_fz, rdO_ol, ownE_eq, owO_ol, go_binL, go_binL1, go_binL2, oSw_eq, go_binR, go_binR1, go_sPut, go_put1, go_putO, go_put2, go_putP, go_putN, go_retF1, go_fLst, go_fl1, go_sOwn, go_own1, go_call, go_call1, kFR_ok, kFR_exc, go_callIo, go_io0, go_io1, go_io2, kIo_ok, kIo_exc, go_callN, go_calln1, go_calln2, go_okF, go_excF, kRun_next, kRun_ret, kRun_exc, finF_none, finF_some, finS_ol, go_finO, go_finX, go_items, go_items_lst, go_items_tup, go_rng1, go_rng1_ok, go_rng2, go_rng2_ok, go_zip, go_zip_l, go_zip_t, go_enum, go_enum_l, go_sFor, go_for1, kLoop_next, kLoop_cont, kLoop_brk, kLoop_ret, kLoop_exc, turn_next, turn_cont, go_lc, go_lc1, kLc_ok, elem_ok, go_yes, go_sl, go_sl1, go_sl2, go_sl3, go_noP, go_p, go_p1, go_rev, go_rev1, go_chain, go_ch1, go_ch2, go_ch3T, go_ch3F, go_ch4, go_dic, go_dic1, go_prs_nil, go_prs, go_prs1, go_prs2, go_prs3, go_prs4, kW_ok, go_fcall, go_fcall1, kRunW_ok, go_okW, go_cf, go_cf1, oAdd_int, oAdd_bl, atI_0, atI_1, atI_2, atI_3, ixN_0, ixN_1, ixN_2, sz_lit, List.getElem?_cons_zero, List.getElem?_cons_succ, List.set_cons_zero, List.set_cons_succ, List.nil_append, List.cons_append, List.append_nil, List.length_cons, List.length_nil, Nat.reduceSub, Nat.reduceLeDiff, Nat.zero_add, Option.bind_some, Option.map_some, reduceCtorEq, Int.reduceLT, Int.reduceLE, Int.reduceNeg, Int.reducePow, Int.reduceToNat, and_true, true_and, and_self, ite_true, ite_false, if_true, if_false, Bool.not_true, Bool.not_false, Bool.true_and, Bool.false_and, Bool.and_true, Bool.and_false, Bool.true_or, Bool.false_or, oSub, oNeg, oLt, oLe, oGt, oGe, oIs, oIsNot, Vs.isNon, oTru, oBl, oIx, oLen, oAbs, oIntC, oMax2, oMin2, oTupC, oLstC, oSl, keyD, decide_true, decide_false, plainE, fzE, gIx, List.filterMap_cons, List.filterMap_nil, wipeE, restE, List.all_cons, List.all_nil, List.getD_eq_getElem?_getD, Option.getD_some, oMod_ok, oFdiv_ok, oPow_lit, oMul_lit, oRepr_bl, oEq_str, oNe_str, oEq_int, oNe_int, oEq_bl, oNe_bl, oEq_nil, oNe_nil, oIsi_int, oIsi_bool, oIsi_listed, str_beq, elem_ok]
    exact ⟨_, by rw [Nat.zero_add] at *; exact h1, by simp; omega, rfl⟩
  · rintro ys _ ⟨W1, h1, hys, rfl⟩
    rw [hlen] at h1 hys
    simp only [List.nil_append, Nat.zero_add] at h1 hys
    rw [kLc_ok (small_sz (by omega))]
    simp only [k_ok, k_exc, kS_ok, kS_exc, kq_next, kq_ret, kq_brk, kq_cont, kq_exc, kq_retF, go_ok, go_exc, go_next, go_ret, go_brk, go_cont, go_excS, go_retF, go_some, go_v, getV_fz, go_c, go_bin, go_bin1, go_bin2, go_un, go_un1, go_tru, go_tru1, go_bl, go_bl1, go_and, go_andT, go_andF, go_or, go_orT, go_orF, go_not, go_not1, go_andV, go_orV, go_andV1, go_orV1, go_andVT, go_andVF, go_orVT, go_orVF, go_notV, go_notV1, go_notV2, go_if, go_ifT, go_ifF, go_nil, go_cons, go_cons1, go_cons2, go_chk, go_lst, go_tup, go_lst1, go_tup1, go_cal, go_cal1, go_isi, go_isi1, go_seq, go_sRet, go_ret1, go_sExpr, go_ex1, go_sIf, go_sifT, go_sifF, go_optS, go_sAsg, go_asg1, go_sSet, go_set1, go_sPar, go_par1, go_sAug, go_augV, kN_eq, kNil_eq, kCons_eq, kT_eq, rdE_eq, rdO_fz, rdO_ol, ownE_eq, owO_ol, go_binL, go_binL1, go_binL2, oSw_eq, go_binR, go_binR1, go_sPut, go_put1, go_putO, go_put2, go_putP, go_putN, go_retF1, go_fLst, go_fl1, go_sOwn, go_own1, go_call, go_call1, kFR_ok, kFR_exc, go_callIo, go_io0, go_io1, go_io2, kIo_ok, kIo_exc, go_callN, go_calln1, go_calln2, go_okF, go_excF, kRun_next, kRun_ret, kRun_exc, finF_none, finF_some, finS_ol, go_finO, go_finX, go_items, go_items_lst, go_items_tup, go_rng1, go_rng1_ok, go_rng2, go_rng2_ok, go_zip, go_zip_l, go_zip_t, go_enum, go_enum_l, go_sFor, go_for1, kLoop_next, kLoop_cont, kLoop_brk, kLoop_ret, kLoop_exc, turn_next, turn_cont, go_lc, go_lc1, kLc_ok, elem_ok, go_yes, go_sl, go_sl1, go_sl2, go_sl3, go_noP, go_p, go_p1, go_rev, go_rev1, go_chain, go_ch1, go_ch2, go_ch3T, go_ch3F, go_ch4, go_dic, go_dic1, go_prs_nil, go_prs, go_prs1, go_prs2, go_prs3, go_prs4, kW_ok, go_fcall, go_fcall1, kRunW_ok, go_okW, go_cf, go_cf1, oAdd_int, oAdd_bl, atI_0, atI_1, atI_2, atI_3, ixN_0, ixN_1, ixN_2, sz_lit, List.getElem?_cons_zero, List.getElem?_cons_succ, List.set_cons_zero, List.set_cons_succ, List.nil_append, List.cons_append, List.append_nil, List.length_cons, List.length_nil, Nat.reduceSub, Nat.reduceLeDiff, Nat.zero_add, Option.bind_some, Option.map_some, reduceCtorEq, Int.reduceLT, Int.reduceLE, Int.reduceNeg, Int.reducePow, Int.reduceToNat, and_true, true_and, and_self, ite_true, ite_false, if_true, if_false, Bool.not_true, Bool.not_false, Bool.true_and, Bool.false_and, Bool.and_true, Bool.and_false, Bool.true_or, Bool.false_or, oSub, oNeg, oLt, oLe, oGt, oGe, oIs, oIsNot, Vs.isNon, oTru, oBl, oIx, oLen, oAbs, oIntC, oMax2, oMin2, oTupC, oLstC, oSl, keyD, decide_true, decide_false, plainE, fzE, gIx, List.filterMap_cons, List.filterMap_nil, wipeE, restE, List.all_cons, List.all_nil, List.getD_eq_getElem?_getD, Option.getD_some, oMod_ok, oFdiv_ok, oPow_lit, oMul_lit, oRepr_bl, oEq_str, oNe_str, oEq_int, oNe_int, oEq_bl, oNe_bl, oEq_nil, oNe_nil, oIsi_int, oIsi_bool, oIsi_listed, str_beq, b__law_row_1]
    have tail : ∀ (W' : List D) (zs : List D) (a b : Option T), Wl (n + m.toNat + 4) W' → zs.length ≤ 200 → Go (kRun (some W) K) (b__law_row_2 [some (.ol (some 0) W'), some (.fz (.int m)), some (.fz (.int l)), some (.fz (.int u)), some (.fz (.lst zs)), a, b]) := by
      intro W' zs a b hw hz
      unfold b__law_row_2
      simp only [k_ok, k_exc, kS_ok, kS_exc, kq_next, kq_ret, kq_brk, kq_cont, kq_exc, kq_retF, go_ok, go_exc, go_next, go_ret, go_brk, go_cont, go_excS, go_retF, go_some, go_v, getV_fz, go_c, go_bin, go_bin1, go_bin2, go_un, go_un1, go_tru, go_tru1, go_bl, go_bl1, go_and, go_andT, go_andF, go_or, go_orT, go_orF, go_not, go_not1, go_andV, go_orV, go_andV1, go_orV1, go_andVT, go_andVF, go_orVT, go_orVF, go_notV, go_notV1, go_notV2, go_if, go_ifT, go_ifF, go_nil, go_cons, go_cons1, go_cons2, go_chk, go_lst, go_tup, go_lst1, go_tup1, go_cal, go_cal1, go_isi, go_isi1, go_seq, go_sRet, go_ret1, go_sExpr, go_ex1, go_sIf, go_sifT, go_sifF, go_optS, go_sAsg, go_asg1, go_sSet, go_set1, go_sPar, go_par1, go_sAug, go_augV, kN_eq, kNil_eq, kCons_eq, kT_eq, rdE_eq, rdO_fz, rdO_ol, ownE_eq, owO_ol, go_binL, go_binL1, go_binL2, oSw_eq, go_binR, go_binR1, go_sPut, go_put1, go_putO, go_put2, go_putP, go_putN, go_retF1, go_fLst, go_fl1, go_sOwn, go_own1, go_call, go_call1, kFR_ok, kFR_exc, go_callIo, go_io0, go_io1, go_io2, kIo_ok, kIo_exc, go_callN, go_calln1, go_calln2, go_okF, go_excF, kRun_next, kRun_ret, kRun_exc, finF_none, finF_some, finS_ol, go_finO, go_finX, go_items, go_items_lst, go_items_tup, go_rng1, go_rng1_ok, go_rng2, go_rng2_ok, go_zip, go_zip_l, go_zip_t, go_enum, go_enum_l, go_sFor, go_for1, kLoop_next, kLoop_cont, kLoop_brk, kLoop_ret, kLoop_exc, turn_next, turn_cont, go_lc, go_lc1, kLc_ok, elem_ok, go_yes, go_sl, go_sl1, go_sl2, go_sl3, go_noP, go_p, go_p1, go_rev, go_rev1, go_chain, go_ch1, go_ch2, go_ch3T, go_ch3F, go_ch4, go_dic, go_dic1, go_prs_nil, go_prs, go_prs1, go_prs2, go_prs3, go_prs4, kW_ok, go_fcall, go_fcall1, kRunW_ok, go_okW, go_cf, go_cf1, oAdd_int, oAdd_bl, atI_0, atI_1, atI_2, atI_3, ixN_0, ixN_1, ixN_2, sz_lit, List.getElem?_cons_zero, List.getElem?_cons_succ, List.set_cons_zero, List.set_cons_succ, List.nil_append, List.cons_append, List.append_nil, List.length_cons, List.length_nil, Nat.reduceSub, Nat.reduceLeDiff, Nat.zero_add, Option.bind_some, Option.map_some, reduceCtorEq, Int.reduceLT, Int.reduceLE, Int.reduceNeg, Int.reducePow, Int.reduceToNat, and_true, true_and, and_self, ite_true, ite_false, if_true, if_false, Bool.not_true, Bool.not_false, Bool.true_and, Bool.false_and, Bool.and_true, Bool.and_false, Bool.true_or, Bool.false_or, oSub, oNeg, oLt, oLe, oGt, oGe, oIs, oIsNot, Vs.isNon, oTru, oBl, oIx, oLen, oAbs, oIntC, oMax2, oMin2, oTupC, oLstC, oSl, keyD, decide_true, decide_false, plainE, fzE, gIx, List.filterMap_cons, List.filterMap_nil, wipeE, restE, List.all_cons, List.all_nil, List.getD_eq_getElem?_getD, Option.getD_some, oMod_ok, oFdiv_ok, oPow_lit, oMul_lit, oRepr_bl, oEq_str, oNe_str, oEq_int, oNe_int, oEq_bl, oNe_bl, oEq_nil, oNe_nil, oIsi_int, oIsi_bool, oIsi_listed, str_beq]
      refine draws _ _ W' _ hw (by omega) (by omega) (by omega) fun W2 x h2 _ _ => ?_
      simp only [k_ok, k_exc, kS_ok, kS_exc, kq_next, kq_ret, kq_brk, kq_cont, kq_exc, kq_retF, go_ok, go_exc, go_next, go_ret, go_brk, go_cont, go_excS, go_retF, go_some, go_v, getV_fz, go_c, go_bin, go_bin1, go_bin2, go_un, go_un1, go_tru, go_tru1, go_bl, go_bl1, go_and, go_andT, go_andF, go_or, go_orT, go_orF, go_not, go_not1, go_andV, go_orV, go_andV1, go_orV1, go_andVT, go_andVF, go_orVT, go_orVF, go_notV, go_notV1, go_notV2, go_if, go_ifT, go_ifF, go_nil, go_cons, go_cons1, go_cons2, go_chk, go_lst, go_tup, go_lst1, go_tup1, go_cal, go_cal1, go_isi, go_isi1, go_seq, go_sRet, go_ret1, go_sExpr, go_ex1, go_sIf, go_sifT, go_sifF, go_optS, go_sAsg, go_asg1, go_sSet, go_set1, go_sPar, go_par1, go_sAug, go_augV, kN_eq, kNil_eq, kCons_eq, kT_eq, rdE_eq, rdO_fz, rdO_ol, ownE_eq, owO_ol, go_binL, go_binL1, go_binL2, oSw_eq, go_binR, go_binR1, go_sPut, go_put1, go_putO, go_put2, go_putP, go_putN, go_retF1, go_fLst, go_fl1, go_sOwn, go_own1, go_call, go_call1, kFR_ok, kFR_exc, go_callIo, go_io0, go_io1, go_io2, kIo_ok, kIo_exc, go_callN, go_calln1, go_calln2, go_okF, go_excF, kRun_next, kRun_ret, kRun_exc, finF_none, finF_some, finS_ol, go_finO, go_finX, go_items, go_items_lst, go_items_tup, go_rng1, go_rng1_ok, go_rng2, go_rng2_ok, go_zip, go_zip_l, go_zip_t, go_enum, go_enum_l, go_sFor, go_for1, kLoop_next, kLoop_cont, kLoop_brk, kLoop_ret, kLoop_exc, turn_next, turn_cont, go_lc, go_lc1, kLc_ok, elem_ok, go_yes, go_sl, go_sl1, go_sl2, go_sl3, go_noP, go_p, go_p1, go_rev, go_rev1, go_chain, go_ch1, go_ch2, go_ch3T, go_ch3F, go_ch4, go_dic, go_dic1, go_prs_nil, go_prs, go_prs1, go_prs2, go_prs3, go_prs4, kW_ok, go_fcall, go_fcall1, kRunW_ok, go_okW, go_cf, go_cf1, oAdd_int, oAdd_bl, atI_0, atI_1, atI_2, atI_3, ixN_0, ixN_1, ixN_2, sz_lit, List.getElem?_cons_zero, List.getElem?_cons_succ, List.set_cons_zero, List.set_cons_succ, List.nil_append, List.cons_append, List.append_nil, List.length_cons, List.length_nil, Nat.reduceSub, Nat.reduceLeDiff, Nat.zero_add, Option.bind_some, Option.map_some, reduceCtorEq, Int.reduceLT, Int.reduceLE, Int.reduceNeg, Int.reducePow, Int.reduceToNat, and_true, true_and, and_self, ite_true, ite_false, if_true, if_false, Bool.not_true, Bool.not_false, Bool.true_and, Bool.false_and, Bool.and_true, Bool.and_false, Bool.true_or, Bool.false_or, oSub, oNeg, oLt, oLe, oGt, oGe, oIs, oIsNot, Vs.isNon, oTru, oBl, oIx, oLen, oAbs, oIntC, oMax2, oMin2, oTupC, oLstC, oSl, keyD, decide_true, decide_false, plainE, fzE, gIx, List.filterMap_cons, List.filterMap_nil, wipeE, restE, List.all_cons, List.all_nil, List.getD_eq_getElem?_getD, Option.getD_some, oMod_ok, oFdiv_ok, oPow_lit, oMul_lit, oRepr_bl, oEq_str, oNe_str, oEq_int, oNe_int, oEq_bl, oNe_bl, oEq_nil, oNe_nil, oIsi_int, oIsi_bool, oIsi_listed, str_beq]
      by_cases hx : x = 0
      · simp only [decide_eq_true hx, k_ok, k_exc, kS_ok, kS_exc, kq_next, kq_ret, kq_brk, kq_cont, kq_exc, kq_retF, go_ok, go_exc, go_next, go_ret, go_brk, go_cont, go_excS, go_retF, go_some, go_v, getV_fz, go_c, go_bin, go_bin1, go_bin2, go_un, go_un1, go_tru, go_tru1, go_bl, go_bl1, go_and, go_andT, go_andF, go_or, go_orT, go_orF, go_not, go_not1, go_andV, go_orV, go_andV1, go_orV1, go_andVT, go_andVF, go_orVT, go_orVF, go_notV, go_notV1, go_notV2, go_if, go_ifT, go_ifF, go_nil, go_cons, go_cons1, go_cons2, go_chk, go_lst, go_tup, go_lst1, go_tup1, go_cal, go_cal1, go_isi, go_isi1, go_seq, go_sRet, go_ret1, go_sExpr, go_ex1, go_sIf, go_sifT, go_sifF, go_optS, go_sAsg, go_asg1, go_sSet, go_set1, go_sPar, go_par1, go_sAug, go_augV, kN_eq, kNil_eq, kCons_eq, kT_eq, rdE_eq, rdO_fz, rdO_ol, ownE_eq, owO_ol, go_binL, go_binL1, go_binL2, oSw_eq, go_binR, go_binR1, go_sPut, go_put1, go_putO, go_put2, go_putP, go_putN, go_retF1, go_fLst, go_fl1, go_sOwn, go_own1, go_call, go_call1, kFR_ok, kFR_exc, go_callIo, go_io0, go_io1, go_io2, kIo_ok, kIo_exc, go_callN, go_calln1, go_calln2, go_okF, go_excF, kRun_next, kRun_ret, kRun_exc, finF_none, finF_some, finS_ol, go_finO, go_finX, go_items, go_items_lst, go_items_tup, go_rng1, go_rng1_ok, go_rng2, go_rng2_ok, go_zip, go_zip_l, go_zip_t, go_enum, go_enum_l, go_sFor, go_for1, kLoop_next, kLoop_cont, kLoop_brk, kLoop_ret, kLoop_exc, turn_next, turn_cont, go_lc, go_lc1, kLc_ok, elem_ok, go_yes, go_sl, go_sl1, go_sl2, go_sl3, go_noP, go_p, go_p1, go_rev, go_rev1, go_chain, go_ch1, go_ch2, go_ch3T, go_ch3F, go_ch4, go_dic, go_dic1, go_prs_nil, go_prs, go_prs1, go_prs2, go_prs3, go_prs4, kW_ok, go_fcall, go_fcall1, kRunW_ok, go_okW, go_cf, go_cf1, oAdd_int, oAdd_bl, atI_0, atI_1, atI_2, atI_3, ixN_0, ixN_1, ixN_2, sz_lit, List.getElem?_cons_zero, List.getElem?_cons_succ, List.set_cons_zero, List.set_cons_succ, List.nil_append, List.cons_append, List.append_nil, List.length_cons, List.length_nil, Nat.reduceSub, Nat.reduceLeDiff, Nat.zero_add, Option.bind_some, Option.map_some, reduceCtorEq, Int.reduceLT, Int.reduceLE, Int.reduceNeg, Int.reducePow, Int.reduceToNat, and_true, true_and, and_self, ite_true, ite_false, if_true, if_false, Bool.not_true, Bool.not_false, Bool.true_and, Bool.false_and, Bool.and_true, Bool.and_false, Bool.true_or, Bool.false_or, oSub, oNeg, oLt, oLe, oGt, oGe, oIs, oIsNot, Vs.isNon, oTru, oBl, oIx, oLen, oAbs, oIntC, oMax2, oMin2, oTupC, oLstC, oSl, keyD, decide_true, decide_false, plainE, fzE, gIx, List.filterMap_cons, List.filterMap_nil, wipeE, restE, List.all_cons, List.all_nil, List.getD_eq_getElem?_getD, Option.getD_some, oMod_ok, oFdiv_ok, oPow_lit, oMul_lit, oRepr_bl, oEq_str, oNe_str, oEq_int, oNe_int, oEq_bl, oNe_bl, oEq_nil, oNe_nil, oIsi_int, oIsi_bool, oIsi_listed, str_beq]
        refine picks _ _ W2 _ _ (.inl rfl) h2 (by omega) (by simp) (by simp) fun W3 y h3 hy => ?_
        simp only [k_ok, k_exc, kS_ok, kS_exc, kq_next, kq_ret, kq_brk, kq_cont, kq_exc, kq_retF, go_ok, go_exc, go_next, go_ret, go_brk, go_cont, go_excS, go_retF, go_some, go_v, getV_fz, go_c, go_bin, go_bin1, go_bin2, go_un, go_un1, go_tru, go_tru1, go_bl, go_bl1, go_and, go_andT, go_andF, go_or, go_orT, go_orF, go_not, go_not1, go_andV, go_orV, go_andV1, go_orV1, go_andVT, go_andVF, go_orVT, go_orVF, go_notV, go_notV1, go_notV2, go_if, go_ifT, go_ifF, go_nil, go_cons, go_cons1, go_cons2, go_chk, go_lst, go_tup, go_lst1, go_tup1, go_cal, go_cal1, go_isi, go_isi1, go_seq, go_sRet, go_ret1, go_sExpr, go_ex1, go_sIf, go_sifT, go_sifF, go_optS, go_sAsg, go_asg1, go_sSet, go_set1, go_sPar, go_par1, go_sAug, go_augV, kN_eq, kNil_eq, kCons_eq, kT_eq, rdE_eq, rdO_fz, rdO_ol, ownE_eq, owO_ol, go_binL, go_binL1, go_binL2, oSw_eq, go_binR, go_binR1, go_sPut, go_put1, go_putO, go_put2, go_putP, go_putN, go_retF1, go_fLst, go_fl1, go_sOwn, go_own1, go_call, go_call1, kFR_ok, kFR_exc, go_callIo, go_io0, go_io1, go_io2, kIo_ok, kIo_exc, go_callN, go_calln1, go_calln2, go_okF, go_excF, kRun_next, kRun_ret, kRun_exc, finF_none, finF_some, finS_ol, go_finO, go_finX, go_items, go_items_lst, go_items_tup, go_rng1, go_rng1_ok, go_rng2, go_rng2_ok, go_zip, go_zip_l, go_zip_t, go_enum, go_enum_l, go_sFor, go_for1, kLoop_next, kLoop_cont, kLoop_brk, kLoop_ret, kLoop_exc, turn_next, turn_cont, go_lc, go_lc1, kLc_ok, elem_ok, go_yes, go_sl, go_sl1, go_sl2, go_sl3, go_noP, go_p, go_p1, go_rev, go_rev1, go_chain, go_ch1, go_ch2, go_ch3T, go_ch3F, go_ch4, go_dic, go_dic1, go_prs_nil, go_prs, go_prs1, go_prs2, go_prs3, go_prs4, kW_ok, go_fcall, go_fcall1, kRunW_ok, go_okW, go_cf, go_cf1, oAdd_int, oAdd_bl, atI_0, atI_1, atI_2, atI_3, ixN_0, ixN_1, ixN_2, sz_lit, List.getElem?_cons_zero, List.getElem?_cons_succ, List.set_cons_zero, List.set_cons_succ, List.nil_append, List.cons_append, List.append_nil, List.length_cons, List.length_nil, Nat.reduceSub, Nat.reduceLeDiff, Nat.zero_add, Option.bind_some, Option.map_some, reduceCtorEq, Int.reduceLT, Int.reduceLE, Int.reduceNeg, Int.reducePow, Int.reduceToNat, and_true, true_and, and_self, ite_true, ite_false, if_true, if_false, Bool.not_true, Bool.not_false, Bool.true_and, Bool.false_and, Bool.and_true, Bool.and_false, Bool.true_or, Bool.false_or, oSub, oNeg, oLt, oLe, oGt, oGe, oIs, oIsNot, Vs.isNon, oTru, oBl, oIx, oLen, oAbs, oIntC, oMax2, oMin2, oTupC, oLstC, oSl, keyD, decide_true, decide_false, plainE, fzE, gIx, List.filterMap_cons, List.filterMap_nil, wipeE, restE, List.all_cons, List.all_nil, List.getD_eq_getElem?_getD, Option.getD_some, oMod_ok, oFdiv_ok, oPow_lit, oMul_lit, oRepr_bl, oEq_str, oNe_str, oEq_int, oNe_int, oEq_bl, oNe_bl, oEq_nil, oNe_nil, oIsi_int, oIsi_bool, oIsi_listed, str_beq]
        refine hK _ _ (h3.mono (by omega)) ?_
        simp only [List.mem_cons, List.not_mem_nil, or_false] at hy
        rcases hy with rfl | rfl | rfl | rfl | rfl | rfl | rfl <;> trivial
      · simp only [decide_eq_false hx, k_ok, k_exc, kS_ok, kS_exc, kq_next, kq_ret, kq_brk, kq_cont, kq_exc, kq_retF, go_ok, go_exc, go_next, go_ret, go_brk, go_cont, go_excS, go_retF, go_some, go_v, getV_fz, go_c, go_bin, go_bin1, go_bin2, go_un, go_un1, go_tru, go_tru1, go_bl, go_bl1, go_and, go_andT, go_andF, go_or, go_orT, go_orF, go_not, go_not1, go_andV, go_orV, go_andV1, go_orV1, go_andVT, go_andVF, go_orVT, go_orVF, go_notV, go_notV1, go_notV2, go_if, go_ifT, go_ifF, go_nil, go_cons, go_cons1, go_cons2, go_chk, go_lst, go_tup, go_lst1, go_tup1, go_cal, go_cal1, go_isi, go_isi1, go_seq, go_sRet, go_ret1, go_sExpr, go_ex1, go_sIf, go_sifT, go_sifF, go_optS, go_sAsg, go_asg1, go_sSet, go_set1, go_sPar, go_par1, go_sAug, go_augV, kN_eq, kNil_eq, kCons_eq, kT_eq, rdE_eq, rdO_fz, rdO_ol, ownE_eq, owO_ol, go_binL, go_binL1, go_binL2, oSw_eq, go_binR, go_binR1, go_sPut, go_put1, go_putO, go_put2, go_putP, go_putN, go_retF1, go_fLst, go_fl1, go_sOwn, go_own1, go_call, go_call1, kFR_ok, kFR_exc, go_callIo, go_io0, go_io1, go_io2, kIo_ok, kIo_exc, go_callN, go_calln1, go_calln2, go_okF, go_excF, kRun_next, kRun_ret, kRun_exc, finF_none, finF_some, finS_ol, go_finO, go_finX, go_items, go_items_lst, go_items_tup, go_rng1, go_rng1_ok, go_rng2, go_rng2_ok, go_zip, go_zip_l, go_zip_t, go_enum, go_enum_l, go_sFor, go_for1, kLoop_next, kLoop_cont, kLoop_brk, kLoop_ret, kLoop_exc, turn_next, turn_cont, go_lc, go_lc1, kLc_ok, elem_ok, go_yes, go_sl, go_sl1, go_sl2, go_sl3, go_noP, go_p, go_p1, go_rev, go_rev1, go_chain, go_ch1, go_ch2, go_ch3T, go_ch3F, go_ch4, go_dic, go_dic1, go_prs_nil, go_prs, go_prs1, go_prs2, go_prs3, go_prs4, kW_ok, go_fcall, go_fcall1, kRunW_ok, go_okW, go_cf, go_cf1, oAdd_int, oAdd_bl, atI_0, atI_1, atI_2, atI_3, ixN_0, ixN_1, ixN_2, sz_lit, List.getElem?_cons_zero, List.getElem?_cons_succ, List.set_cons_zero, List.set_cons_succ, List.nil_append, List.cons_append, List.append_nil, List.length_cons, List.length_nil, Nat.reduceSub, Nat.reduceLeDiff, Nat.zero_add, Option.bind_some, Option.map_some, reduceCtorEq, Int.reduceLT, Int.reduceLE, Int.reduceNeg, Int.reducePow, Int.reduceToNat, and_true, true_and, and_self, ite_true, ite_false, if_true, if_false, Bool.not_true, Bool.not_false, Bool.true_and, Bool.false_and, Bool.and_true, Bool.and_false, Bool.true_or, Bool.false_or, oSub, oNeg, oLt, oLe, oGt, oGe, oIs, oIsNot, Vs.isNon, oTru, oBl, oIx, oLen, oAbs, oIntC, oMax2, oMin2, oTupC, oLstC, oSl, keyD, decide_true, decide_false, plainE, fzE, gIx, List.filterMap_cons, List.filterMap_nil, wipeE, restE, List.all_cons, List.all_nil, List.getD_eq_getElem?_getD, Option.getD_some, oMod_ok, oFdiv_ok, oPow_lit, oMul_lit, oRepr_bl, oEq_str, oNe_str, oEq_int, oNe_int, oEq_bl, oNe_bl, oEq_nil, oNe_nil, oIsi_int, oIsi_bool, oIsi_listed, str_beq, b__law_row_3]
        refine draws _ _ W2 _ h2 (by omega) (by omega) (by omega) fun W3 y h3 _ _ => ?_
        simp only [k_ok, k_exc, kS_ok, kS_exc, kq_next, kq_ret, kq_brk, kq_cont, kq_exc, kq_retF, go_ok, go_exc, go_next, go_ret, go_brk, go_cont, go_excS, go_retF, go_some, go_v, getV_fz, go_c, go_bin, go_bin1, go_bin2, go_un, go_un1, go_tru, go_tru1, go_bl, go_bl1, go_and, go_andT, go_andF, go_or, go_orT, go_orF, go_not, go_not1, go_andV, go_orV, go_andV1, go_orV1, go_andVT, go_andVF, go_orVT, go_orVF, go_notV, go_notV1, go_notV2, go_if, go_ifT, go_ifF, go_nil, go_cons, go_cons1, go_cons2, go_chk, go_lst, go_tup, go_lst1, go_tup1, go_cal, go_cal1, go_isi, go_isi1, go_seq, go_sRet, go_ret1, go_sExpr, go_ex1, go_sIf, go_sifT, go_sifF, go_optS, go_sAsg, go_asg1, go_sSet, go_set1, go_sPar, go_par1, go_sAug, go_augV, kN_eq, kNil_eq, kCons_eq, kT_eq, rdE_eq, rdO_fz, rdO_ol, ownE_eq, owO_ol, go_binL, go_binL1, go_binL2, oSw_eq, go_binR, go_binR1, go_sPut, go_put1, go_putO, go_put2, go_putP, go_putN, go_retF1, go_fLst, go_fl1, go_sOwn, go_own1, go_call, go_call1, kFR_ok, kFR_exc, go_callIo, go_io0, go_io1, go_io2, kIo_ok, kIo_exc, go_callN, go_calln1, go_calln2, go_okF, go_excF, kRun_next, kRun_ret, kRun_exc, finF_none, finF_some, finS_ol, go_finO, go_finX, go_items, go_items_lst, go_items_tup, go_rng1, go_rng1_ok, go_rng2, go_rng2_ok, go_zip, go_zip_l, go_zip_t, go_enum, go_enum_l, go_sFor, go_for1, kLoop_next, kLoop_cont, kLoop_brk, kLoop_ret, kLoop_exc, turn_next, turn_cont, go_lc, go_lc1, kLc_ok, elem_ok, go_yes, go_sl, go_sl1, go_sl2, go_sl3, go_noP, go_p, go_p1, go_rev, go_rev1, go_chain, go_ch1, go_ch2, go_ch3T, go_ch3F, go_ch4, go_dic, go_dic1, go_prs_nil, go_prs, go_prs1, go_prs2, go_prs3, go_prs4, kW_ok, go_fcall, go_fcall1, kRunW_ok, go_okW, go_cf, go_cf1, oAdd_int, oAdd_bl, atI_0, atI_1, atI_2, atI_3, ixN_0, ixN_1, ixN_2, sz_lit, List.getElem?_cons_zero, List.getElem?_cons_succ, List.set_cons_zero, List.set_cons_succ, List.nil_append, List.cons_append, List.append_nil, List.length_cons, List.length_nil, Nat.reduceSub, Nat.reduceLeDiff, Nat.zero_add, Option.bind_some, Option.map_some, reduceCtorEq, Int.reduceLT, Int.reduceLE, Int.reduceNeg, Int.reducePow, Int.reduceToNat, and_true, true_and, and_self, ite_true, ite_false, if_true, if_false, Bool.not_true, Bool.not_false, Bool.true_and, Bool.false_and, Bool.and_true, Bool.and_false, Bool.true_or, Bool.false_or, oSub, oNeg, oLt, oLe, oGt, oGe, oIs, oIsNot, Vs.isNon, oTru, oBl, oIx, oLen, oAbs, oIntC, oMax2, oMin2, oTupC, oLstC, oSl, keyD, decide_true, decide_false, plainE, fzE, gIx, List.filterMap_cons, List.filterMap_nil, wipeE, restE, List.all_cons, List.all_nil, List.getD_eq_getElem?_getD, Option.getD_some, oMod_ok, oFdiv_ok, oPow_lit, oMul_lit, oRepr_bl, oEq_str, oNe_str, oEq_int, oNe_int, oEq_bl, oNe_bl, oEq_nil, oNe_nil, oIsi_int, oIsi_bool, oIsi_listed, str_beq]
        by_cases hy : y = 0
        · simp only [decide_eq_true hy, k_ok, k_exc, kS_ok, kS_exc, kq_next, kq_ret, kq_brk, kq_cont, kq_exc, kq_retF, go_ok, go_exc, go_next, go_ret, go_brk, go_cont, go_excS, go_retF, go_some, go_v, getV_fz, go_c, go_bin, go_bin1, go_bin2, go_un, go_un1, go_tru, go_tru1, go_bl, go_bl1, go_and, go_andT, go_andF, go_or, go_orT, go_orF, go_not, go_not1, go_andV, go_orV, go_andV1, go_orV1, go_andVT, go_andVF, go_orVT, go_orVF, go_notV, go_notV1, go_notV2, go_if, go_ifT, go_ifF, go_nil, go_cons, go_cons1, go_cons2, go_chk, go_lst, go_tup, go_lst1, go_tup1, go_cal, go_cal1, go_isi, go_isi1, go_seq, go_sRet, go_ret1, go_sExpr, go_ex1, go_sIf, go_sifT, go_sifF, go_optS, go_sAsg, go_asg1, go_sSet, go_set1, go_sPar, go_par1, go_sAug, go_augV, kN_eq, kNil_eq, kCons_eq, kT_eq, rdE_eq, rdO_fz, rdO_ol, ownE_eq, owO_ol, go_binL, go_binL1, go_binL2, oSw_eq, go_binR, go_binR1, go_sPut, go_put1, go_putO, go_put2, go_putP, go_putN, go_retF1, go_fLst, go_fl1, go_sOwn, go_own1, go_call, go_call1, kFR_ok, kFR_exc, go_callIo, go_io0, go_io1, go_io2, kIo_ok, kIo_exc, go_callN, go_calln1, go_calln2, go_okF, go_excF, kRun_next, kRun_ret, kRun_exc, finF_none, finF_some, finS_ol, go_finO, go_finX, go_items, go_items_lst, go_items_tup, go_rng1, go_rng1_ok, go_rng2, go_rng2_ok, go_zip, go_zip_l, go_zip_t, go_enum, go_enum_l, go_sFor, go_for1, kLoop_next, kLoop_cont, kLoop_brk, kLoop_ret, kLoop_exc, turn_next, turn_cont, go_lc, go_lc1, kLc_ok, elem_ok, go_yes, go_sl, go_sl1, go_sl2, go_sl3, go_noP, go_p, go_p1, go_rev, go_rev1, go_chain, go_ch1, go_ch2, go_ch3T, go_ch3F, go_ch4, go_dic, go_dic1, go_prs_nil, go_prs, go_prs1, go_prs2, go_prs3, go_prs4, kW_ok, go_fcall, go_fcall1, kRunW_ok, go_okW, go_cf, go_cf1, oAdd_int, oAdd_bl, atI_0, atI_1, atI_2, atI_3, ixN_0, ixN_1, ixN_2, sz_lit, List.getElem?_cons_zero, List.getElem?_cons_succ, List.set_cons_zero, List.set_cons_succ, List.nil_append, List.cons_append, List.append_nil, List.length_cons, List.length_nil, Nat.reduceSub, Nat.reduceLeDiff, Nat.zero_add, Option.bind_some, Option.map_some, reduceCtorEq, Int.reduceLT, Int.reduceLE, Int.reduceNeg, Int.reducePow, Int.reduceToNat, and_true, true_and, and_self, ite_true, ite_false, if_true, if_false, Bool.not_true, Bool.not_false, Bool.true_and, Bool.false_and, Bool.and_true, Bool.and_false, Bool.true_or, Bool.false_or, oSub, oNeg, oLt, oLe, oGt, oGe, oIs, oIsNot, Vs.isNon, oTru, oBl, oIx, oLen, oAbs, oIntC, oMax2, oMin2, oTupC, oLstC, oSl, keyD, decide_true, decide_false, plainE, fzE, gIx, List.filterMap_cons, List.filterMap_nil, wipeE, restE, List.all_cons, List.all_nil, List.getD_eq_getElem?_getD, Option.getD_some, oMod_ok, oFdiv_ok, oPow_lit, oMul_lit, oRepr_bl, oEq_str, oNe_str, oEq_int, oNe_int, oEq_bl, oNe_bl, oEq_nil, oNe_nil, oIsi_int, oIsi_bool, oIsi_listed, str_beq]
          exact hK _ _ (h3.mono (by omega)) (show zs.length ≤ 1000 by omega)
        · simp only [decide_eq_false hy, k_ok, k_exc, kS_ok, kS_exc, kq_next, kq_ret, kq_brk, kq_cont, kq_exc, kq_retF, go_ok, go_exc, go_next, go_ret, go_brk, go_cont, go_excS, go_retF, go_some, go_v, getV_fz, go_c, go_bin, go_bin1, go_bin2, go_un, go_un1, go_tru, go_tru1, go_bl, go_bl1, go_and, go_andT, go_andF, go_or, go_orT, go_orF, go_not, go_not1, go_andV, go_orV, go_andV1, go_orV1, go_andVT, go_andVF, go_orVT, go_orVF, go_notV, go_notV1, go_notV2, go_if, go_ifT, go_ifF, go_nil, go_cons, go_cons1, go_cons2, go_chk, go_lst, go_tup, go_lst1, go_tup1, go_cal, go_cal1, go_isi, go_isi1, go_seq, go_sRet, go_ret1, go_sExpr, go_ex1, go_sIf, go_sifT, go_sifF, go_optS, go_sAsg, go_asg1, go_sSet, go_set1, go_sPar, go_par1, go_sAug, go_augV, kN_eq, kNil_eq, kCons_eq, kT_eq, rdE_eq, rdO_fz, rdO_ol, ownE_eq, owO_ol, go_binL, go_binL1, go_binL2, oSw_eq, go_binR, go_binR1, go_sPut, go_put1, go_putO, go_put2, go_putP, go_putN, go_retF1, go_fLst, go_fl1, go_sOwn, go_own1, go_call, go_call1, kFR_ok, kFR_exc, go_callIo, go_io0, go_io1, go_io2, kIo_ok, kIo_exc, go_callN, go_calln1, go_calln2, go_okF, go_excF, kRun_next, kRun_ret, kRun_exc, finF_none, finF_some, finS_ol, go_finO, go_finX, go_items, go_items_lst, go_items_tup, go_rng1, go_rng1_ok, go_rng2, go_rng2_ok, go_zip, go_zip_l, go_zip_t, go_enum, go_enum_l, go_sFor, go_for1, kLoop_next, kLoop_cont, kLoop_brk, kLoop_ret, kLoop_exc, turn_next, turn_cont, go_lc, go_lc1, kLc_ok, elem_ok, go_yes, go_sl, go_sl1, go_sl2, go_sl3, go_noP, go_p, go_p1, go_rev, go_rev1, go_chain, go_ch1, go_ch2, go_ch3T, go_ch3F, go_ch4, go_dic, go_dic1, go_prs_nil, go_prs, go_prs1, go_prs2, go_prs3, go_prs4, kW_ok, go_fcall, go_fcall1, kRunW_ok, go_okW, go_cf, go_cf1, oAdd_int, oAdd_bl, atI_0, atI_1, atI_2, atI_3, ixN_0, ixN_1, ixN_2, sz_lit, List.getElem?_cons_zero, List.getElem?_cons_succ, List.set_cons_zero, List.set_cons_succ, List.nil_append, List.cons_append, List.append_nil, List.length_cons, List.length_nil, Nat.reduceSub, Nat.reduceLeDiff, Nat.zero_add, Option.bind_some, Option.map_some, reduceCtorEq, Int.reduceLT, Int.reduceLE, Int.reduceNeg, Int.reducePow, Int.reduceToNat, and_true, true_and, and_self, ite_true, ite_false, if_true, if_false, Bool.not_true, Bool.not_false, Bool.true_and, Bool.false_and, Bool.and_true, Bool.and_false, Bool.true_or, Bool.false_or, oSub, oNeg, oLt, oLe, oGt, oGe, oIs, oIsNot, Vs.isNon, oTru, oBl, oIx, oLen, oAbs, oIntC, oMax2, oMin2, oTupC, oLstC, oSl, keyD, decide_true, decide_false, plainE, fzE, gIx, List.filterMap_cons, List.filterMap_nil, wipeE, restE, List.all_cons, List.all_nil, List.getD_eq_getElem?_getD, Option.getD_some, oMod_ok, oFdiv_ok, oPow_lit, oMul_lit, oRepr_bl, oEq_str, oNe_str, oEq_int, oNe_int, oEq_bl, oNe_bl, oEq_nil, oNe_nil, oIsi_int, oIsi_bool, oIsi_listed, str_beq]
          exact hK _ _ (h3.mono (by omega)) (show zs.length ≤ 1000 by omega)
    by_cases hm1 : 0 < m
    · simp only [decide_eq_true hm1, k_ok, k_exc, kS_ok, kS_exc, kq_next, kq_ret, kq_brk, kq_cont, kq_exc, kq_retF, go_ok, go_exc, go_next, go_ret, go_brk, go_cont, go_excS, go_retF, go_some, go_v, getV_fz, go_c, go_bin, go_bin1, go_bin2, go_un, go_un1, go_tru, go_tru1, go_bl, go_bl1, go_and, go_andT, go_andF, go_or, go_orT, go_orF, go_not, go_not1, go_andV, go_orV, go_andV1, go_orV1, go_andVT, go_andVF, go_orVT, go_orVF, go_notV, go_notV1, go_notV2, go_if, go_ifT, go_ifF, go_nil, go_cons, go_cons1, go_cons2, go_chk, go_lst, go_tup, go_lst1, go_tup1, go_cal, go_cal1, go_isi, go_isi1, go_seq, go_sRet, go_ret1, go_sExpr, go_ex1, go_sIf, go_sifT, go_sifF, go_optS, go_sAsg, go_asg1, go_sSet, go_set1, go_sPar, go_par1, go_sAug, go_augV, kN_eq, kNil_eq, kCons_eq, kT_eq, rdE_eq, rdO_fz, rdO_ol, ownE_eq, owO_ol, go_binL, go_binL1, go_binL2, oSw_eq, go_binR, go_binR1, go_sPut, go_put1, go_putO, go_put2, go_putP, go_putN, go_retF1, go_fLst, go_fl1, go_sOwn, go_own1, go_call, go_call1, kFR_ok, kFR_exc, go_callIo, go_io0, go_io1, go_io2, kIo_ok, kIo_exc, go_callN, go_calln1, go_calln2, go_okF, go_excF, kRun_next, kRun_ret, kRun_exc, finF_none, finF_some, finS_ol, go_finO, go_finX, go_items, go_items_lst, go_items_tup, go_rng1, go_rng1_ok, go_rng2, go_rng2_ok, go_zip, go_zip_l, go_zip_t, go_enum, go_enum_l, go_sFor, go_for1, kLoop_next, kLoop_cont, kLoop_brk, kLoop_ret, kLoop_exc, turn_next, turn_cont, go_lc, go_lc1, kLc_ok, elem_ok, go_yes, go_sl, go_sl1, go_sl2, go_sl3, go_noP, go_p, go_p1, go_rev, go_rev1, go_chain, go_ch1, go_ch2, go_ch3T, go_ch3F, go_ch4, go_dic, go_dic1, go_prs_nil, go_prs, go_prs1, go_prs2, go_prs3, go_prs4, kW_ok, go_fcall, go_fcall1, kRunW_ok, go_okW, go_cf, go_cf1, oAdd_int, oAdd_bl, atI_0, atI_1, atI_2, atI_3, ixN_0, ixN_1, ixN_2, sz_lit, List.getElem?_cons_zero, List.getElem?_cons_succ, List.set_cons_zero, List.set_cons_succ, List.nil_append, List.cons_append, List.append_nil, List.length_cons, List.length_nil, Nat.reduceSub, Nat.reduceLeDiff, Nat.zero_add, Option.bind_some, Option.map_some, reduceCtorEq, Int.reduceLT, Int.reduceLE, Int.reduceNeg, Int.reducePow, Int.reduceToNat, and_true, true_and, and_self, ite_true, ite_false, if_true, if_false, Bool.not_true, Bool.not_false, Bool.true_and, Bool.false_and, Bool.and_true, Bool.and_false, Bool.true_or, Bool.false_or, oSub, oNeg, oLt, oLe, oGt, oGe, oIs, oIsNot, Vs.isNon, oTru, oBl, oIx, oLen, oAbs, oIntC, oMax2, oMin2, oTupC, oLstC, oSl, keyD, decide_true, decide_false, plainE, fzE, gIx, List.filterMap_cons, List.filterMap_nil, wipeE, restE, List.all_cons, List.all_nil, List.getD_eq_getElem?_getD, Option.getD_some, oMod_ok, oFdiv_ok, oPow_lit, oMul_lit, oRepr_bl, oEq_str, oNe_str, oEq_int, oNe_int, oEq_bl, oNe_bl, oEq_nil, oNe_nil, oIsi_int, oIsi_bool, oIsi_listed, str_beq]
      refine draws _ _ W1 _ h1 (by omega) (by omega) (by omega) fun W2 x h2 _ _ => ?_
      simp only [k_ok, k_exc, kS_ok, kS_exc, kq_next, kq_ret, kq_brk, kq_cont, kq_exc, kq_retF, go_ok, go_exc, go_next, go_ret, go_brk, go_cont, go_excS, go_retF, go_some, go_v, getV_fz, go_c, go_bin, go_bin1, go_bin2, go_un, go_un1, go_tru, go_tru1, go_bl, go_bl1, go_and, go_andT, go_andF, go_or, go_orT, go_orF, go_not, go_not1, go_andV, go_orV, go_andV1, go_orV1, go_andVT, go_andVF, go_orVT, go_orVF, go_notV, go_notV1, go_notV2, go_if, go_ifT, go_ifF, go_nil, go_cons, go_cons1, go_cons2, go_chk, go_lst, go_tup, go_lst1, go_tup1, go_cal, go_cal1, go_isi, go_isi1, go_seq, go_sRet, go_ret1, go_sExpr, go_ex1, go_sIf, go_sifT, go_sifF, go_optS, go_sAsg, go_asg1, go_sSet, go_set1, go_sPar, go_par1, go_sAug, go_augV, kN_eq, kNil_eq, kCons_eq, kT_eq, rdE_eq, rdO_fz, rdO_ol, ownE_eq, owO_ol, go_binL, go_binL1, go_binL2, oSw_eq, go_binR, go_binR1, go_sPut, go_put1, go_putO, go_put2, go_putP, go_putN, go_retF1, go_fLst, go_fl1, go_sOwn, go_own1, go_call, go_call1, kFR_ok, kFR_exc, go_callIo, go_io0, go_io1, go_io2, kIo_ok, kIo_exc, go_callN, go_calln1, go_calln2, go_okF, go_excF, kRun_next, kRun_ret, kRun_exc, finF_none, finF_some, finS_ol, go_finO, go_finX, go_items, go_items_lst, go_items_tup, go_rng1, go_rng1_ok, go_rng2, go_rng2_ok, go_zip, go_zip_l, go_zip_t, go_enum, go_enum_l, go_sFor, go_for1, kLoop_next, kLoop_cont, kLoop_brk, kLoop_ret, kLoop_exc, turn_next, turn_cont, go_lc, go_lc1, kLc_ok, elem_ok, go_yes, go_sl, go_sl1, go_sl2, go_sl3, go_noP, go_p, go_p1, go_rev, go_rev1, go_chain, go_ch1, go_ch2, go_ch3T, go_ch3F, go_ch4, go_dic, go_dic1, go_prs_nil, go_prs, go_prs1, go_prs2, go_prs3, go_prs4, kW_ok, go_fcall, go_fcall1, kRunW_ok, go_okW, go_cf, go_cf1, oAdd_int, oAdd_bl, atI_0, atI_1, atI_2, atI_3, ixN_0, ixN_1, ixN_2, sz_lit, List.getElem?_cons_zero, List.getElem?_cons_succ, List.set_cons_zero, List.set_cons_succ, List.nil_append, List.cons_append, List.append_nil, List.length_cons, List.length_nil, Nat.reduceSub, Nat.reduceLeDiff, Nat.zero_add, Option.bind_some, Option.map_some, reduceCtorEq, Int.reduceLT, Int.reduceLE, Int.reduceNeg, Int.reducePow, Int.reduceToNat, and_true, true_and, and_self, ite_true, ite_false, if_true, if_false, Bool.not_true, Bool.not_false, Bool.true_and, Bool.false_and, Bool.and_true, Bool.and_false, Bool.true_or, Bool.false_or, oSub, oNeg, oLt, oLe, oGt, oGe, oIs, oIsNot, Vs.isNon, oTru, oBl, oIx, oLen, oAbs, oIntC, oMax2, oMin2, oTupC, oLstC, oSl, keyD, decide_true, decide_false, plainE, fzE, gIx, List.filterMap_cons, List.filterMap_nil, wipeE, restE, List.all_cons, List.all_nil, List.getD_eq_getElem?_getD, Option.getD_some, oMod_ok, oFdiv_ok, oPow_lit, oMul_lit, oRepr_bl, oEq_str, oNe_str, oEq_int, oNe_int, oEq_bl, oNe_bl, oEq_nil, oNe_nil, oIsi_int, oIsi_bool, oIsi_listed, str_beq]
      by_cases hx : x = 0
      · simp only [decide_eq_true hx, k_ok, k_exc, kS_ok, kS_exc, kq_next, kq_ret, kq_brk, kq_cont, kq_exc, kq_retF, go_ok, go_exc, go_next, go_ret, go_brk, go_cont, go_excS, go_retF, go_some, go_v, getV_fz, go_c, go_bin, go_bin1, go_bin2, go_un, go_un1, go_tru, go_tru1, go_bl, go_bl1, go_and, go_andT, go_andF, go_or, go_orT, go_orF, go_not, go_not1, go_andV, go_orV, go_andV1, go_orV1, go_andVT, go_andVF, go_orVT, go_orVF, go_notV, go_notV1, go_notV2, go_if, go_ifT, go_ifF, go_nil, go_cons, go_cons1, go_cons2, go_chk, go_lst, go_tup, go_lst1, go_tup1, go_cal, go_cal1, go_isi, go_isi1, go_seq, go_sRet, go_ret1, go_sExpr, go_ex1, go_sIf, go_sifT, go_sifF, go_optS, go_sAsg, go_asg1, go_sSet, go_set1, go_sPar, go_par1, go_sAug, go_augV, kN_eq, kNil_eq, kCons_eq, kT_eq, rdE_eq, rdO_fz, rdO_ol, ownE_eq, owO_ol, go_binL, go_binL1, go_binL2, oSw_eq, go_binR, go_binR1, go_sPut, go_put1, go_putO, go_put2, go_putP, go_putN, go_retF1, go_fLst, go_fl1, go_sOwn, go_own1, go_call, go_call1, kFR_ok, kFR_exc, go_callIo, go_io0, go_io1, go_io2, kIo_ok, kIo_exc, go_callN, go_calln1, go_calln2, go_okF, go_excF, kRun_next, kRun_ret, kRun_exc, finF_none, finF_some, finS_ol, go_finO, go_finX, go_items, go_items_lst, go_items_tup, go_rng1, go_rng1_ok, go_rng2, go_rng2_ok, go_zip, go_zip_l, go_zip_t, go_enum, go_enum_l, go_sFor, go_for1, kLoop_next, kLoop_cont, kLoop_brk, kLoop_ret, kLoop_exc, turn_next, turn_cont, go_lc, go_lc1, kLc_ok, elem_ok, go_yes, go_sl, go_sl1, go_sl2, go_sl3, go_noP, go_p, go_p1, go_rev, go_rev1, go_chain, go_ch1, go_ch2, go_ch3T, go_ch3F, go_ch4, go_dic, go_dic1, go_prs_nil, go_prs, go_prs1, go_prs2, go_prs3, go_prs4, kW_ok, go_fcall, go_fcall1, kRunW_ok, go_okW, go_cf, go_cf1, oAdd_int, oAdd_bl, atI_0, atI_1, atI_2, atI_3, ixN_0, ixN_1, ixN_2, sz_lit, List.getElem?_cons_zero, List.getElem?_cons_succ, List.set_cons_zero, List.set_cons_succ, List.nil_append, List.cons_append, List.append_nil, List.length_cons, List.length_nil, Nat.reduceSub, Nat.reduceLeDiff, Nat.zero_add, Option.bind_some, Option.map_some, reduceCtorEq, Int.reduceLT, Int.reduceLE, Int.reduceNeg, Int.reducePow, Int.reduceToNat, and_true, true_and, and_self, ite_true, ite_false, if_true, if_false, Bool.not_true, Bool.not_false, Bool.true_and, Bool.false_and, Bool.and_true, Bool.and_false, Bool.true_or, Bool.false_or, oSub, oNeg, oLt, oLe, oGt, oGe, oIs, oIsNot, Vs.isNon, oTru, oBl, oIx, oLen, oAbs, oIntC, oMax2, oMin2, oTupC, oLstC, oSl, keyD, decide_true, decide_false, plainE, fzE, gIx, List.filterMap_cons, List.filterMap_nil, wipeE, restE, List.all_cons, List.all_nil, List.getD_eq_getElem?_getD, Option.getD_some, oMod_ok, oFdiv_ok, oPow_lit, oMul_lit, oRepr_bl, oEq_str, oNe_str, oEq_int, oNe_int, oEq_bl, oNe_bl, oEq_nil, oNe_nil, oIsi_int, oIsi_bool, oIsi_listed, str_beq]
        refine draws _ _ W2 _ h2 (by omega) (by omega) (by omega) fun W3 y h3 _ _ => ?_
        simp only [k_ok, k_exc, kS_ok, kS_exc, kq_next, kq_ret, kq_brk, kq_cont, kq_exc, kq_retF, go_ok, go_exc, go_next, go_ret, go_brk, go_cont, go_excS, go_retF, go_some, go_v, getV_fz, go_c, go_bin, go_bin1, go_bin2, go_un, go_un1, go_tru, go_tru1, go_bl, go_bl1, go_and, go_andT, go_andF, go_or, go_orT, go_orF, go_not, go_not1, go_andV, go_orV, go_andV1, go_orV1, go_andVT, go_andVF, go_orVT, go_orVF, go_notV, go_notV1, go_notV2, go_if, go_ifT, go_ifF, go_nil, go_cons, go_cons1, go_cons2, go_chk, go_lst, go_tup, go_lst1, go_tup1, go_cal, go_cal1, go_isi, go_isi1, go_seq, go_sRet, go_ret1, go_sExpr, go_ex1, go_sIf, go_sifT, go_sifF, go_optS, go_sAsg, go_asg1, go_sSet, go_set1, go_sPar, go_par1, go_sAug, go_augV, kN_eq, kNil_eq, kCons_eq, kT_eq, rdE_eq, rdO_fz, rdO_ol, ownE_eq, owO_ol, go_binL, go_binL1, go_binL2, oSw_eq, go_binR, go_binR1, go_sPut, go_put1, go_putO, go_put2, go_putP, go_putN, go_retF1, go_fLst, go_fl1, go_sOwn, go_own1, go_call, go_call1, kFR_ok, kFR_exc, go_callIo, go_io0, go_io1, go_io2, kIo_ok, kIo_exc, go_callN, go_calln1, go_calln2, go_okF, go_excF, kRun_next, kRun_ret, kRun_exc, finF_none, finF_some, finS_ol, go_finO, go_finX, go_items, go_items_lst, go_items_tup, go_rng1, go_rng1_ok, go_rng2, go_rng2_ok, go_zip, go_zip_l, go_zip_t, go_enum, go_enum_l, go_sFor, go_for1, kLoop_next, kLoop_cont, kLoop_brk, kLoop_ret, kLoop_exc, turn_next, turn_cont, go_lc, go_lc1, kLc_ok, elem_ok, go_yes, go_sl, go_sl1, go_sl2, go_sl3, go_noP, go_p, go_p1, go_rev, go_rev1, go_chain, go_ch1, go_ch2, go_ch3T, go_ch3F, go_ch4, go_dic, go_dic1, go_prs_nil, go_prs, go_prs1, go_prs2, go_prs3, go_prs4, kW_ok, go_fcall, go_fcall1, kRunW_ok, go_okW, go_cf, go_cf1, oAdd_int, oAdd_bl, atI_0, atI_1, atI_2, atI_3, ixN_0, ixN_1, ixN_2, sz_lit, List.getElem?_cons_zero, List.getElem?_cons_succ, List.set_cons_zero, List.set_cons_succ, List.nil_append, List.cons_append, List.append_nil, List.length_cons, List.length_nil, Nat.reduceSub, Nat.reduceLeDiff, Nat.zero_add, Option.bind_some, Option.map_some, reduceCtorEq, Int.reduceLT, Int.reduceLE, Int.reduceNeg, Int.reducePow, Int.reduceToNat, and_true, true_and, and_self, ite_true, ite_false, if_true, if_false, Bool.not_true, Bool.not_false, Bool.true_and, Bool.false_and, Bool.and_true, Bool.and_false, Bool.true_or, Bool.false_or, oSub, oNeg, oLt, oLe, oGt, oGe, oIs, oIsNot, Vs.isNon, oTru, oBl, oIx, oLen, oAbs, oIntC, oMax2, oMin2, oTupC, oLstC, oSl, keyD, decide_true, decide_false, plainE, fzE, gIx, List.filterMap_cons, List.filterMap_nil, wipeE, restE, List.all_cons, List.all_nil, List.getD_eq_getElem?_getD, Option.getD_some, oMod_ok, oFdiv_ok, oPow_lit, oMul_lit, oRepr_bl, oEq_str, oNe_str, oEq_int, oNe_int, oEq_bl, oNe_bl, oEq_nil, oNe_nil, oIsi_int, oIsi_bool, oIsi_listed, str_beq]
        refine item_go h3 (by omega) fun W4 z h4 => ?_
        have c1 := cutD_len ys none (some y)
        have c2 := cutD_len ys (some (y + 1)) none
        have e1 := oAdd_lst (xs := cutD ys none (some y)) (ys := [z]) (by simp only [List.length_cons, List.length_nil]; omega)
        have e2 := oAdd_lst (xs := cutD ys none (some y) ++ [z]) (ys := cutD ys (some (y + 1)) none) (by simp only [List.length_append, List.length_cons, List.length_nil]; omega)
        simp only [k_ok, k_exc, kS_ok, kS_exc, kq_next, kq_ret, kq_brk, kq_cont, kq_exc, kq_retF, go_ok, go_exc, go_next, go_ret, go_brk, go_cont, go_excS, go_retF, go_some, go_v, getV_fz, go_c, go_bin, go_bin1, go_bin2, go_un, go_un1, go_tru, go_tru1, go_bl, go_bl1, go_and, go_andT, go_andF, go_or, go_orT, go_orF, go_not, go_not1, go_andV, go_orV, go_andV1, go_orV1, go_andVT, go_andVF, go_orVT, go_orVF, go_notV, go_notV1, go_notV2, go_if, go_ifT, go_ifF, go_nil, go_cons, go_cons1, go_cons2, go_chk, go_lst, go_tup, go_lst1, go_tup1, go_cal, go_cal1, go_isi, go_isi1, go_seq, go_sRet, go_ret1, go_sExpr, go_ex1, go_sIf, go_sifT, go_sifF, go_optS, go_sAsg, go_asg1, go_sSet, go_set1, go_sPar, go_par1, go_sAug, go_augV, kN_eq, kNil_eq, kCons_eq, kT_eq, rdE_eq, rdO_fz, rdO_ol, ownE_eq, owO_ol, go_binL, go_binL1, go_binL2, oSw_eq, go_binR, go_binR1, go_sPut, go_put1, go_putO, go_put2, go_putP, go_putN, go_retF1, go_fLst, go_fl1, go_sOwn, go_own1, go_call, go_call1, kFR_ok, kFR_exc, go_callIo, go_io0, go_io1, go_io2, kIo_ok, kIo_exc, go_callN, go_calln1, go_calln2, go_okF, go_excF, kRun_next, kRun_ret, kRun_exc, finF_none, finF_some, finS_ol, go_finO, go_finX, go_items, go_items_lst, go_items_tup, go_rng1, go_rng1_ok, go_rng2, go_rng2_ok, go_zip, go_zip_l, go_zip_t, go_enum, go_enum_l, go_sFor, go_for1, kLoop_next, kLoop_cont, kLoop_brk, kLoop_ret, kLoop_exc, turn_next, turn_cont, go_lc, go_lc1, kLc_ok, elem_ok, go_yes, go_sl, go_sl1, go_sl2, go_sl3, go_noP, go_p, go_p1, go_rev, go_rev1, go_chain, go_ch1, go_ch2, go_ch3T, go_ch3F, go_ch4, go_dic, go_dic1, go_prs_nil, go_prs, go_prs1, go_prs2, go_prs3, go_prs4, kW_ok, go_fcall, go_fcall1, kRunW_ok, go_okW, go_cf, go_cf1, oAdd_int, oAdd_bl, atI_0, atI_1, atI_2, atI_3, ixN_0, ixN_1, ixN_2, sz_lit, List.getElem?_cons_zero, List.getElem?_cons_succ, List.set_cons_zero, List.set_cons_succ, List.nil_append, List.cons_append, List.append_nil, List.length_cons, List.length_nil, Nat.reduceSub, Nat.reduceLeDiff, Nat.zero_add, Option.bind_some, Option.map_some, reduceCtorEq, Int.reduceLT, Int.reduceLE, Int.reduceNeg, Int.reducePow, Int.reduceToNat, and_true, true_and, and_self, ite_true, ite_false, if_true, if_false, Bool.not_true, Bool.not_false, Bool.true_and, Bool.false_and, Bool.and_true, Bool.and_false, Bool.true_or, Bool.false_or, oSub, oNeg, oLt, oLe, oGt, oGe, oIs, oIsNot, Vs.isNon, oTru, oBl, oIx, oLen, oAbs, oIntC, oMax2, oMin2, oTupC, oLstC, oSl, keyD, decide_true, decide_false, plainE, fzE, gIx, List.filterMap_cons, List.filterMap_nil, wipeE, restE, List.all_cons, List.all_nil, List.getD_eq_getElem?_getD, Option.getD_some, oMod_ok, oFdiv_ok, oPow_lit, oMul_lit, oRepr_bl, oEq_str, oNe_str, oEq_int, oNe_int, oEq_bl, oNe_bl, oEq_nil, oNe_nil, oIsi_int, oIsi_bool, oIsi_listed, str_beq, e1, e2]
        exact tail _ _ _ _ (h4.mono (by omega)) (by simp only [List.length_append, List.length_cons, List.length_nil]; omega)
      · simp only [decide_eq_false hx, k_ok, k_exc, kS_ok, kS_exc, kq_next, kq_ret, kq_brk, kq_cont, kq_exc, kq_retF, go_ok, go_exc, go_next, go_ret, go_brk, go_cont, go_excS, go_retF, go_some, go_v, getV_fz, go_c, go_bin, go_bin1, go_bin2, go_un, go_un1, go_tru, go_tru1, go_bl, go_bl1, go_and, go_andT, go_andF, go_or, go_orT, go_orF, go_not, go_not1, go_andV, go_orV, go_andV1, go_orV1, go_andVT, go_andVF, go_orVT, go_orVF, go_notV, go_notV1, go_notV2, go_if, go_ifT, go_ifF, go_nil, go_cons, go_cons1, go_cons2, go_chk, go_lst, go_tup, go_lst1, go_tup1, go_cal, go_cal1, go_isi, go_isi1, go_seq, go_sRet, go_ret1, go_sExpr, go_ex1, go_sIf, go_sifT, go_sifF, go_optS, go_sAsg, go_asg1, go_sSet, go_set1, go_sPar, go_par1, go_sAug, go_augV, kN_eq, kNil_eq, kCons_eq, kT_eq, rdE_eq, rdO_fz, rdO_ol, ownE_eq, owO_ol, go_binL, go_binL1, go_binL2, oSw_eq, go_binR, go_binR1, go_sPut, go_put1, go_putO, go_put2, go_putP, go_putN, go_retF1, go_fLst, go_fl1, go_sOwn, go_own1, go_call, go_call1, kFR_ok, kFR_exc, go_callIo, go_io0, go_io1, go_io2, kIo_ok, kIo_exc, go_callN, go_calln1, go_calln2, go_okF, go_excF, kRun_next, kRun_ret, kRun_exc, finF_none, finF_some, finS_ol, go_finO, go_finX, go_items, go_items_lst, go_items_tup, go_rng1, go_rng1_ok, go_rng2, go_rng2_ok, go_zip, go_zip_l, go_zip_t, go_enum, go_enum_l, go_sFor, go_for1, kLoop_next, kLoop_cont, kLoop_brk, kLoop_ret, kLoop_exc, turn_next, turn_cont, go_lc, go_lc1, kLc_ok, elem_ok, go_yes, go_sl, go_sl1, go_sl2, go_sl3, go_noP, go_p, go_p1, go_rev, go_rev1, go_chain, go_ch1, go_ch2, go_ch3T, go_ch3F, go_ch4, go_dic, go_dic1, go_prs_nil, go_prs, go_prs1, go_prs2, go_prs3, go_prs4, kW_ok, go_fcall, go_fcall1, kRunW_ok, go_okW, go_cf, go_cf1, oAdd_int, oAdd_bl, atI_0, atI_1, atI_2, atI_3, ixN_0, ixN_1, ixN_2, sz_lit, List.getElem?_cons_zero, List.getElem?_cons_succ, List.set_cons_zero, List.set_cons_succ, List.nil_append, List.cons_append, List.append_nil, List.length_cons, List.length_nil, Nat.reduceSub, Nat.reduceLeDiff, Nat.zero_add, Option.bind_some, Option.map_some, reduceCtorEq, Int.reduceLT, Int.reduceLE, Int.reduceNeg, Int.reducePow, Int.reduceToNat, and_true, true_and, and_self, ite_true, ite_false, if_true, if_false, Bool.not_true, Bool.not_false, Bool.true_and, Bool.false_and, Bool.and_true, Bool.and_false, Bool.true_or, Bool.false_or, oSub, oNeg, oLt, oLe, oGt, oGe, oIs, oIsNot, Vs.isNon, oTru, oBl, oIx, oLen, oAbs, oIntC, oMax2, oMin2, oTupC, oLstC, oSl, keyD, decide_true, decide_false, plainE, fzE, gIx, List.filterMap_cons, List.filterMap_nil, wipeE, restE, List.all_cons, List.all_nil, List.getD_eq_getElem?_getD, Option.getD_some, oMod_ok, oFdiv_ok, oPow_lit, oMul_lit, oRepr_bl, oEq_str, oNe_str, oEq_int, oNe_int, oEq_bl, oNe_bl, oEq_nil, oNe_nil, oIsi_int, oIsi_bool, oIsi_listed, str_beq]
        exact tail _ _ _ _ (h2.mono (by omega)) (by omega)
    · simp only [decide_eq_false hm1, k_ok, k_exc, kS_ok, kS_exc, kq_next, kq_ret, kq_brk, kq_cont, kq_exc, kq_retF, go_ok, go_exc, go_next, go_ret, go_brk, go_cont, go_excS, go_retF, go_some, go_v, getV_fz, go_c, go_bin, go_bin1, go_bin2, go_un, go_un1, go_tru, go_tru1, go_bl, go_bl1, go_and, go_andT, go_andF, go_or, go_orT, go_orF, go_not, go_not1, go_andV, go_orV, go_andV1, go_orV1, go_andVT, go_andVF, go_orVT, go_orVF, go_notV, go_notV1, go_notV2, go_if, go_ifT, go_ifF, go_nil, go_cons, go_cons1, go_cons2, go_chk, go_lst, go_tup, go_lst1, go_tup1, go_cal, go_cal1, go_isi, go_isi1, go_seq, go_sRet, go_ret1, go_sExpr, go_ex1, go_sIf, go_sifT, go_sifF, go_optS, go_sAsg, go_asg1, go_sSet, go_set1, go_sPar, go_par1, go_sAug, go_augV, kN_eq, kNil_eq, kCons_eq, kT_eq, rdE_eq, rdO_fz, rdO_ol, ownE_eq, owO_ol, go_binL, go_binL1, go_binL2, oSw_eq, go_binR, go_binR1, go_sPut, go_put1, go_putO, go_put2, go_putP, go_putN, go_retF1, go_fLst, go_fl1, go_sOwn, go_own1, go_call, go_call1, kFR_ok, kFR_exc, go_callIo, go_io0, go_io1, go_io2, kIo_ok, kIo_exc, go_callN, go_calln1, go_calln2, go_okF, go_excF, kRun_next, kRun_ret, kRun_exc, finF_none, finF_some, finS_ol, go_finO, go_finX, go_items, go_items_lst, go_items_tup, go_rng1, go_rng1_ok, go_rng2, go_rng2_ok, go_zip, go_zip_l, go_zip_t, go_enum, go_enum_l, go_sFor, go_for1, kLoop_next, kLoop_cont, kLoop_brk, kLoop_ret, kLoop_exc, turn_next, turn_cont, go_lc, go_lc1, kLc_ok, elem_ok, go_yes, go_sl, go_sl1, go_sl2, go_sl3, go_noP, go_p, go_p1, go_rev, go_rev1, go_chain, go_ch1, go_ch2, go_ch3T, go_ch3F, go_ch4, go_dic, go_dic1, go_prs_nil, go_prs, go_prs1, go_prs2, go_prs3, go_prs4, kW_ok, go_fcall, go_fcall1, kRunW_ok, go_okW, go_cf, go_cf1, oAdd_int, oAdd_bl, atI_0, atI_1, atI_2, atI_3, ixN_0, ixN_1, ixN_2, sz_lit, List.getElem?_cons_zero, List.getElem?_cons_succ, List.set_cons_zero, List.set_cons_succ, List.nil_append, List.cons_append, List.append_nil, List.length_cons, List.length_nil, Nat.reduceSub, Nat.reduceLeDiff, Nat.zero_add, Option.bind_some, Option.map_some, reduceCtorEq, Int.reduceLT, Int.reduceLE, Int.reduceNeg, Int.reducePow, Int.reduceToNat, and_true, true_and, and_self, ite_true, ite_false, if_true, if_false, Bool.not_true, Bool.not_false, Bool.true_and, Bool.false_and, Bool.and_true, Bool.and_false, Bool.true_or, Bool.false_or, oSub, oNeg, oLt, oLe, oGt, oGe, oIs, oIsNot, Vs.isNon, oTru, oBl, oIx, oLen, oAbs, oIntC, oMax2, oMin2, oTupC, oLstC, oSl, keyD, decide_true, decide_false, plainE, fzE, gIx, List.filterMap_cons, List.filterMap_nil, wipeE, restE, List.all_cons, List.all_nil, List.getD_eq_getElem?_getD, Option.getD_some, oMod_ok, oFdiv_ok, oPow_lit, oMul_lit, oRepr_bl, oEq_str, oNe_str, oEq_int, oNe_int, oEq_bl, oNe_bl, oEq_nil, oNe_nil, oIsi_int, oIsi_bool, oIsi_listed, str_beq]
      exact tail _ _ _ _ (h1.mono (by omega)) (by omega)
theorem wth_nn (d : D) : wth d .non .non = isI d := by cases d <;> rfl
theorem wth_and (d lo hi : D) : (wth d lo .non && wth d .non hi) = wth d lo hi := by
  cases d with
  | int v => simp [wth, geL, leL]
  | _ => rfl
theorem all_and (p q : D → Bool) : ∀ xs : List D, (xs.all fun d => p d && q d) = (xs.all p && xs.all q)
  | [] => rfl
  | x :: xs => by
    simp only [List.all_cons, all_and p q xs]
    cases p x <;> cases q x <;> simp
theorem all_wth (xs : List D) (lo hi : D) : xs.all (wth · lo hi) = (xs.all (wth · lo .non) && xs.all (wth · .non hi)) := by
  rw [← all_and]
  simp only [wth_and]
theorem all_wth_false {xs : List D} {lo hi : D} (h : xs.all isI = false) : xs.all (wth · lo hi) = false := by
  rw [List.all_eq_false] at h ⊢
  obtain ⟨x, hx, h1⟩ := h
  refine ⟨x, hx, ?_⟩
  cases x <;> simp_all [wth, isI]
def rowI (W : List D) (m l u : Int) (x : D) (e : Vs.Env) : Prop := ∃ c a b d, e = [some (.ol (some 0) W), some (.fz (.int m)), some (.fz (.int l)), some (.fz (.int u)), some (.fz x), some (.fz (.bl (isL x))), c, a, b, d, none]
theorem turn_lst (W : List D) (m l u c : Int) (xs : List D) (a b d : Option T) (hd : xs.length ≤ 1000) :
    Go (Turn (rowI W m l u (.lst xs))) (l1__law_rows_right [some (.ol (some 0) W), some (.fz (.int m)), some (.fz (.int l)), some (.fz (.int u)), some (.fz (.lst xs)), some (.fz (.bl true)), some (.fz (.int c)), a, b, d, none]) := by
  have hf : Fine (.lst xs) := hd
  have tL : Lim (.int l) := trivial
  have tU : Lim (.int u) := trivial
  have tN : Lim .non := trivial
  have r0 := fun k lo hi h1 h2 => v_is_row (.lst xs) k lo hi h1 h2 hf
  unfold l1__law_rows_right
  by_cases hk : (xs.length : Int) = c
  · have rd : ∀ lo hi, rowD (.lst xs) c lo hi = xs.all (wth · lo hi) := fun lo hi => by simp [rowD, hk]
    simp only [k_ok, k_exc, kS_ok, kS_exc, kq_next, kq_ret, kq_brk, kq_cont, kq_exc, kq_retF, go_ok, go_exc, go_next, go_ret, go_brk, go_cont, go_excS, go_retF, go_some, go_v, getV_fz, go_c, go_bin, go_bin1, go_bin2, go_un, go_un1, go_tru, go_tru1, go_bl, go_bl1, go_and, go_andT, go_andF, go_or, go_orT, go_orF, go_not, go_not1, go_andV, go_orV, go_andV1, go_orV1, go_andVT, go_andVF, go_orVT, go_orVF, go_notV, go_notV1, go_notV2, go_if, go_ifT, go_ifF, go_nil, go_cons, go_cons1, go_cons2, go_chk, go_lst, go_tup, go_lst1, go_tup1, go_cal, go_cal1, go_isi, go_isi1, go_seq, go_sRet, go_ret1, go_sExpr, go_ex1, go_sIf, go_sifT, go_sifF, go_optS, go_sAsg, go_asg1, go_sSet, go_set1, go_sPar, go_par1, go_sAug, go_augV, kN_eq, kNil_eq, kCons_eq, kT_eq, rdE_eq, rdO_fz, rdO_ol, ownE_eq, owO_ol, go_binL, go_binL1, go_binL2, oSw_eq, go_binR, go_binR1, go_sPut, go_put1, go_putO, go_put2, go_putP, go_putN, go_retF1, go_fLst, go_fl1, go_sOwn, go_own1, go_call, go_call1, kFR_ok, kFR_exc, go_callIo, go_io0, go_io1, go_io2, kIo_ok, kIo_exc, go_callN, go_calln1, go_calln2, go_okF, go_excF, kRun_next, kRun_ret, kRun_exc, finF_none, finF_some, finS_ol, go_finO, go_finX, go_items, go_items_lst, go_items_tup, go_rng1, go_rng1_ok, go_rng2, go_rng2_ok, go_zip, go_zip_l, go_zip_t, go_enum, go_enum_l, go_sFor, go_for1, kLoop_next, kLoop_cont, kLoop_brk, kLoop_ret, kLoop_exc, turn_next, turn_cont, go_lc, go_lc1, kLc_ok, elem_ok, go_yes, go_sl, go_sl1, go_sl2, go_sl3, go_noP, go_p, go_p1, go_rev, go_rev1, go_chain, go_ch1, go_ch2, go_ch3T, go_ch3F, go_ch4, go_dic, go_dic1, go_prs_nil, go_prs, go_prs1, go_prs2, go_prs3, go_prs4, kW_ok, go_fcall, go_fcall1, kRunW_ok, go_okW, go_cf, go_cf1, oAdd_int, oAdd_bl, atI_0, atI_1, atI_2, atI_3, ixN_0, ixN_1, ixN_2, sz_lit, List.getElem?_cons_zero, List.getElem?_cons_succ, List.set_cons_zero, List.set_cons_succ, List.nil_append, List.cons_append, List.append_nil, List.length_cons, List.length_nil, Nat.reduceSub, Nat.reduceLeDiff, Nat.zero_add, Option.bind_some, Option.map_some, reduceCtorEq, Int.reduceLT, Int.reduceLE, Int.reduceNeg, Int.reducePow, Int.reduceToNat, and_true, true_and, and_self, ite_true, ite_false, if_true, if_false, Bool.not_true, Bool.not_false, Bool.true_and, Bool.false_and, Bool.and_true, Bool.and_false, Bool.true_or, Bool.false_or, oSub, oNeg, oLt, oLe, oGt, oGe, oIs, oIsNot, Vs.isNon, oTru, oBl, oIx, oLen, oAbs, oIntC, oMax2, oMin2, oTupC, oLstC, oSl, keyD, decide_true, decide_false, plainE, fzE, gIx, List.filterMap_cons, List.filterMap_nil, wipeE, restE, List.all_cons, List.all_nil, List.getD_eq_getElem?_getD, Option.getD_some, oMod_ok, oFdiv_ok, oPow_lit, oMul_lit, oRepr_bl, oEq_str, oNe_str, oEq_int, oNe_int, oEq_bl, oNe_bl, oEq_nil, oNe_nil, oIsi_int, oIsi_bool, oIsi_listed, str_beq, decide_eq_true hk]
    refine go_filterC (fun d => !isI d) rfl (by simp) (fun d _ => ?_) ?_
    · simp only [k_ok, k_exc, kS_ok, kS_exc, kq_next, kq_ret, kq_brk, kq_cont, kq_exc, kq_retF, go_ok, go_exc, go_next, go_ret, go_brk, go_cont, go_excS, go_retF, go_some, go_v, getV_fz, go_c, go_bin, go_bin1, go_bin2, go_un, go_un1, go_tru, go_tru1, go_bl, go_bl1, go_and, go_andT, go_andF, go_or, go_orT, go_orF, go_not, go_not1, go_andV, go_orV, go_andV1, go_orV1, go_andVT, go_andVF, go_orVT, go_orVF, go_notV, go_notV1, go_notV2, go_if, go_ifT, go_ifF, go_nil, go_cons, go_cons1, go_cons2, go_chk, go_lst, go_tup, go_lst1, go_tup1, go_cal, go_cal1, go_isi, go_isi1, go_seq, go_sRet, go_ret1, go_sExpr, go_ex1, go_sIf, go_sifT, go_sifF, go_optS, go_sAsg, go_asg1, go_sSet, go_set1, go_sPar, go_par1, go_sAug, go_augV, kN_eq, kNil_eq, kCons_eq, kT_eq, rdE_eq, rdO_fz, rdO_ol, ownE_eq, owO_ol, go_binL, go_binL1, go_binL2, oSw_eq, go_binR, go_binR1, go_sPut, go_put1, go_putO, go_put2, go_putP, go_putN, go_retF1, go_fLst, go_fl1, go_sOwn, go_own1, go_call, go_call1, kFR_ok, kFR_exc, go_callIo, go_io0, go_io1, go_io2, kIo_ok, kIo_exc, go_callN, go_calln1, go_calln2, go_okF, go_excF, kRun_next, kRun_ret, kRun_exc, finF_none, finF_some, finS_ol, go_finO, go_finX, go_items, go_items_lst, go_items_tup, go_rng1, go_rng1_ok, go_rng2, go_rng2_ok, go_zip, go_zip_l, go_zip_t, go_enum, go_enum_l, go_sFor, go_for1, kLoop_next, kLoop_cont, kLoop_brk, kLoop_ret, kLoop_exc, turn_next, turn_cont, go_lc, go_lc1, kLc_ok, elem_ok, go_yes, go_sl, go_sl1, go_sl2, go_sl3, go_noP, go_p, go_p1, go_rev, go_rev1, go_chain, go_ch1, go_ch2, go_ch3T, go_ch3F, go_ch4, go_dic, go_dic1, go_prs_nil, go_prs, go_prs1, go_prs2, go_prs3, go_prs4, kW_ok, go_fcall, go_fcall1, kRunW_ok, go_okW, go_cf, go_cf1, oAdd_int, oAdd_bl, atI_0, atI_1, atI_2, atI_3, ixN_0, ixN_1, ixN_2, sz_lit, List.getElem?_cons_zero, List.getElem?_cons_succ, List.set_cons_zero, List.set_cons_succ, List.nil_append, List.cons_append, List.append_nil, List.length_cons, List.length_nil, Nat.reduceSub, Nat.reduceLeDiff, Nat.zero_add, Option.bind_some, Option.map_some, reduceCtorEq, Int.reduceLT, Int.reduceLE, Int.reduceNeg, Int.reducePow, Int.reduceToNat, and_true, true_and, and_self, ite_true, ite_false, if_true, if_false, Bool.not_true, Bool.not_false, Bool.true_and, Bool.false_and, Bool.and_true, Bool.and_false, Bool.true_or, Bool.false_or, oSub, oNeg, oLt, oLe, oGt, oGe, oIs, oIsNot, Vs.isNon, oTru, oBl, oIx, oLen, oAbs, oIntC, oMax2, oMin2, oTupC, oLstC, oSl, keyD, decide_true, decide_false, plainE, fzE, gIx, List.filterMap_cons, List.filterMap_nil, wipeE, restE, List.all_cons, List.all_nil, List.getD_eq_getElem?_getD, Option.getD_some, oMod_ok, oFdiv_ok, oPow_lit, oMul_lit, oRepr_bl, oEq_str, oNe_str, oEq_int, oNe_int, oEq_bl, oNe_bl, oEq_nil, oNe_nil, oIsi_int, oIsi_bool, oIsi_listed, str_beq, v_plain]
    rw [kLc_ok (filter_len hd)]
    simp only [k_ok, k_exc, kS_ok, kS_exc, kq_next, kq_ret, kq_brk, kq_cont, kq_exc, kq_retF, go_ok, go_exc, go_next, go_ret, go_brk, go_cont, go_excS, go_retF, go_some, go_v, getV_fz, go_c, go_bin, go_bin1, go_bin2, go_un, go_un1, go_tru, go_tru1, go_bl, go_bl1, go_and, go_andT, go_andF, go_or, go_orT, go_orF, go_not, go_not1, go_andV, go_orV, go_andV1, go_orV1, go_andVT, go_andVF, go_orVT, go_orVF, go_notV, go_notV1, go_notV2, go_if, go_ifT, go_ifF, go_nil, go_cons, go_cons1, go_cons2, go_chk, go_lst, go_tup, go_lst1, go_tup1, go_cal, go_cal1, go_isi, go_isi1, go_seq, go_sRet, go_ret1, go_sExpr, go_ex1, go_sIf, go_sifT, go_sifF, go_optS, go_sAsg, go_asg1, go_sSet, go_set1, go_sPar, go_par1, go_sAug, go_augV, kN_eq, kNil_eq, kCons_eq, kT_eq, rdE_eq, rdO_fz, rdO_ol, ownE_eq, owO_ol, go_binL, go_binL1, go_binL2, oSw_eq, go_binR, go_binR1, go_sPut, go_put1, go_putO, go_put2, go_putP, go_putN, go_retF1, go_fLst, go_fl1, go_sOwn, go_own1, go_call, go_call1, kFR_ok, kFR_exc, go_callIo, go_io0, go_io1, go_io2, kIo_ok, kIo_exc, go_callN, go_calln1, go_calln2, go_okF, go_excF, kRun_next, kRun_ret, kRun_exc, finF_none, finF_some, finS_ol, go_finO, go_finX, go_items, go_items_lst, go_items_tup, go_rng1, go_rng1_ok, go_rng2, go_rng2_ok, go_zip, go_zip_l, go_zip_t, go_enum, go_enum_l, go_sFor, go_for1, kLoop_next, kLoop_cont, kLoop_brk, kLoop_ret, kLoop_exc, turn_next, turn_cont, go_lc, go_lc1, kLc_ok, elem_ok, go_yes, go_sl, go_sl1, go_sl2, go_sl3, go_noP, go_p, go_p1, go_rev, go_rev1, go_chain, go_ch1, go_ch2, go_ch3T, go_ch3F, go_ch4, go_dic, go_dic1, go_prs_nil, go_prs, go_prs1, go_prs2, go_prs3, go_prs4, kW_ok, go_fcall, go_fcall1, kRunW_ok, go_okW, go_cf, go_cf1, oAdd_int, oAdd_bl, atI_0, atI_1, atI_2, atI_3, ixN_0, ixN_1, ixN_2, sz_lit, List.getElem?_cons_zero, List.getElem?_cons_succ, List.set_cons_zero, List.set_cons_succ, List.nil_append, List.cons_append, List.append_nil, List.length_cons, List.length_nil, Nat.reduceSub, Nat.reduceLeDiff, Nat.zero_add, Option.bind_some, Option.map_some, reduceCtorEq, Int.reduceLT, Int.reduceLE, Int.reduceNeg, Int.reducePow, Int.reduceToNat, and_true, true_and, and_self, ite_true, ite_false, if_true, if_false, Bool.not_true, Bool.not_false, Bool.true_and, Bool.false_and, Bool.and_true, Bool.and_false, Bool.true_or, Bool.false_or, oSub, oNeg, oLt, oLe, oGt, oGe, oIs, oIsNot, Vs.isNon, oTru, oBl, oIx, oLen, oAbs, oIntC, oMax2, oMin2, oTupC, oLstC, oSl, keyD, decide_true, decide_false, plainE, fzE, gIx, List.filterMap_cons, List.filterMap_nil, wipeE, restE, List.all_cons, List.all_nil, List.getD_eq_getElem?_getD, Option.getD_some, oMod_ok, oFdiv_ok, oPow_lit, oMul_lit, oRepr_bl, oEq_str, oNe_str, oEq_int, oNe_int, oEq_bl, oNe_bl, oEq_nil, oNe_nil, oIsi_int, oIsi_bool, oIsi_listed, str_beq, isEmpty_filter_not, l1__law_rows_right_1, r0 _ _ _ tN tN, rd, wth_nn, l1__law_rows_right_2]
    cases hA : xs.all isI with
    | false =>
      have hz : ∀ lo hi, xs.all (wth · lo hi) = false := fun lo hi => all_wth_false hA
      simp only [k_ok, k_exc, kS_ok, kS_exc, kq_next, kq_ret, kq_brk, kq_cont, kq_exc, kq_retF, go_ok, go_exc, go_next, go_ret, go_brk, go_cont, go_excS, go_retF, go_some, go_v, getV_fz, go_c, go_bin, go_bin1, go_bin2, go_un, go_un1, go_tru, go_tru1, go_bl, go_bl1, go_and, go_andT, go_andF, go_or, go_orT, go_orF, go_not, go_not1, go_andV, go_orV, go_andV1, go_orV1, go_andVT, go_andVF, go_orVT, go_orVF, go_notV, go_notV1, go_notV2, go_if, go_ifT, go_ifF, go_nil, go_cons, go_cons1, go_cons2, go_chk, go_lst, go_tup, go_lst1, go_tup1, go_cal, go_cal1, go_isi, go_isi1, go_seq, go_sRet, go_ret1, go_sExpr, go_ex1, go_sIf, go_sifT, go_sifF, go_optS, go_sAsg, go_asg1, go_sSet, go_set1, go_sPar, go_par1, go_sAug, go_augV, kN_eq, kNil_eq, kCons_eq, kT_eq, rdE_eq, rdO_fz, rdO_ol, ownE_eq, owO_ol, go_binL, go_binL1, go_binL2, oSw_eq, go_binR, go_binR1, go_sPut, go_put1, go_putO, go_put2, go_putP, go_putN, go_retF1, go_fLst, go_fl1, go_sOwn, go_own1, go_call, go_call1, kFR_ok, kFR_exc, go_callIo, go_io0, go_io1, go_io2, kIo_ok, kIo_exc, go_callN, go_calln1, go_calln2, go_okF, go_excF, kRun_next, kRun_ret, kRun_exc, finF_none, finF_some, finS_ol, go_finO, go_finX, go_items, go_items_lst, go_items_tup, go_rng1, go_rng1_ok, go_rng2, go_rng2_ok, go_zip, go_zip_l, go_zip_t, go_enum, go_enum_l, go_sFor, go_for1, kLoop_next, kLoop_cont, kLoop_brk, kLoop_ret, kLoop_exc, turn_next, turn_cont, go_lc, go_lc1, kLc_ok, elem_ok, go_yes, go_sl, go_sl1, go_sl2, go_sl3, go_noP, go_p, go_p1, go_rev, go_rev1, go_chain, go_ch1, go_ch2, go_ch3T, go_ch3F, go_ch4, go_dic, go_dic1, go_prs_nil, go_prs, go_prs1, go_prs2, go_prs3, go_prs4, kW_ok, go_fcall, go_fcall1, kRunW_ok, go_okW, go_cf, go_cf1, oAdd_int, oAdd_bl, atI_0, atI_1, atI_2, atI_3, ixN_0, ixN_1, ixN_2, sz_lit, List.getElem?_cons_zero, List.getElem?_cons_succ, List.set_cons_zero, List.set_cons_succ, List.nil_append, List.cons_append, List.append_nil, List.length_cons, List.length_nil, Nat.reduceSub, Nat.reduceLeDiff, Nat.zero_add, Option.bind_some, Option.map_some, reduceCtorEq, Int.reduceLT, Int.reduceLE, Int.reduceNeg, Int.reducePow, Int.reduceToNat, and_true, true_and, and_self, ite_true, ite_false, if_true, if_false, Bool.not_true, Bool.not_false, Bool.true_and, Bool.false_and, Bool.and_true, Bool.and_false, Bool.true_or, Bool.false_or, oSub, oNeg, oLt, oLe, oGt, oGe, oIs, oIsNot, Vs.isNon, oTru, oBl, oIx, oLen, oAbs, oIntC, oMax2, oMin2, oTupC, oLstC, oSl, keyD, decide_true, decide_false, plainE, fzE, gIx, List.filterMap_cons, List.filterMap_nil, wipeE, restE, List.all_cons, List.all_nil, List.getD_eq_getElem?_getD, Option.getD_some, oMod_ok, oFdiv_ok, oPow_lit, oMul_lit, oRepr_bl, oEq_str, oNe_str, oEq_int, oNe_int, oEq_bl, oNe_bl, oEq_nil, oNe_nil, oIsi_int, oIsi_bool, oIsi_listed, str_beq, l1__law_rows_right_3, l1__law_rows_right_4, l1__law_rows_right_5, r0 _ _ _ tL tN, r0 _ _ _ tN tU, r0 _ _ _ tL tU, rd, hz, turn_next]
      exact ⟨_, _, _, _, rfl⟩
    | true =>
      simp only [k_ok, k_exc, kS_ok, kS_exc, kq_next, kq_ret, kq_brk, kq_cont, kq_exc, kq_retF, go_ok, go_exc, go_next, go_ret, go_brk, go_cont, go_excS, go_retF, go_some, go_v, getV_fz, go_c, go_bin, go_bin1, go_bin2, go_un, go_un1, go_tru, go_tru1, go_bl, go_bl1, go_and, go_andT, go_andF, go_or, go_orT, go_orF, go_not, go_not1, go_andV, go_orV, go_andV1, go_orV1, go_andVT, go_andVF, go_orVT, go_orVF, go_notV, go_notV1, go_notV2, go_if, go_ifT, go_ifF, go_nil, go_cons, go_cons1, go_cons2, go_chk, go_lst, go_tup, go_lst1, go_tup1, go_cal, go_cal1, go_isi, go_isi1, go_seq, go_sRet, go_ret1, go_sExpr, go_ex1, go_sIf, go_sifT, go_sifF, go_optS, go_sAsg, go_asg1, go_sSet, go_set1, go_sPar, go_par1, go_sAug, go_augV, kN_eq, kNil_eq, kCons_eq, kT_eq, rdE_eq, rdO_fz, rdO_ol, ownE_eq, owO_ol, go_binL, go_binL1, go_binL2, oSw_eq, go_binR, go_binR1, go_sPut, go_put1, go_putO, go_put2, go_putP, go_putN, go_retF1, go_fLst, go_fl1, go_sOwn, go_own1, go_call, go_call1, kFR_ok, kFR_exc, go_callIo, go_io0, go_io1, go_io2, kIo_ok, kIo_exc, go_callN, go_calln1, go_calln2, go_okF, go_excF, kRun_next, kRun_ret, kRun_exc, finF_none, finF_some, finS_ol, go_finO, go_finX, go_items, go_items_lst, go_items_tup, go_rng1, go_rng1_ok, go_rng2, go_rng2_ok, go_zip, go_zip_l, go_zip_t, go_enum, go_enum_l, go_sFor, go_for1, kLoop_next, kLoop_cont, kLoop_brk, kLoop_ret, kLoop_exc, turn_next, turn_cont, go_lc, go_lc1, kLc_ok, elem_ok, go_yes, go_sl, go_sl1, go_sl2, go_sl3, go_noP, go_p, go_p1, go_rev, go_rev1, go_chain, go_ch1, go_ch2, go_ch3T, go_ch3F, go_ch4, go_dic, go_dic1, go_prs_nil, go_prs, go_prs1, go_prs2, go_prs3, go_prs4, kW_ok, go_fcall, go_fcall1, kRunW_ok, go_okW, go_cf, go_cf1, oAdd_int, oAdd_bl, atI_0, atI_1, atI_2, atI_3, ixN_0, ixN_1, ixN_2, sz_lit, List.getElem?_cons_zero, List.getElem?_cons_succ, List.set_cons_zero, List.set_cons_succ, List.nil_append, List.cons_append, List.append_nil, List.length_cons, List.length_nil, Nat.reduceSub, Nat.reduceLeDiff, Nat.zero_add, Option.bind_some, Option.map_some, reduceCtorEq, Int.reduceLT, Int.reduceLE, Int.reduceNeg, Int.reducePow, Int.reduceToNat, and_true, true_and, and_self, ite_true, ite_false, if_true, if_false, Bool.not_true, Bool.not_false, Bool.true_and, Bool.false_and, Bool.and_true, Bool.and_false, Bool.true_or, Bool.false_or, oSub, oNeg, oLt, oLe, oGt, oGe, oIs, oIsNot, Vs.isNon, oTru, oBl, oIx, oLen, oAbs, oIntC, oMax2, oMin2, oTupC, oLstC, oSl, keyD, decide_true, decide_false, plainE, fzE, gIx, List.filterMap_cons, List.filterMap_nil, wipeE, restE, List.all_cons, List.all_nil, List.getD_eq_getElem?_getD, Option.getD_some, oMod_ok, oFdiv_ok, oPow_lit, oMul_lit, oRepr_bl, oEq_str, oNe_str, oEq_int, oNe_int, oEq_bl, oNe_bl, oEq_nil, oNe_nil, oIsi_int, oIsi_bool, oIsi_listed, str_beq]
      refine go_filterC (fun d => !wth d (.int l) .non) rfl (by simp) (fun d _ => ?_) ?_
      · simp only [k_ok, k_exc, kS_ok, kS_exc, kq_next, kq_ret, kq_brk, kq_cont, kq_exc, kq_retF, go_ok, go_exc, go_next, go_ret, go_brk, go_cont, go_excS, go_retF, go_some, go_v, getV_fz, go_c, go_bin, go_bin1, go_bin2, go_un, go_un1, go_tru, go_tru1, go_bl, go_bl1, go_and, go_andT, go_andF, go_or, go_orT, go_orF, go_not, go_not1, go_andV, go_orV, go_andV1, go_orV1, go_andVT, go_andVF, go_orVT, go_orVF, go_notV, go_notV1, go_notV2, go_if, go_ifT, go_ifF, go_nil, go_cons, go_cons1, go_cons2, go_chk, go_lst, go_tup, go_lst1, go_tup1, go_cal, go_cal1, go_isi, go_isi1, go_seq, go_sRet, go_ret1, go_sExpr, go_ex1, go_sIf, go_sifT, go_sifF, go_optS, go_sAsg, go_asg1, go_sSet, go_set1, go_sPar, go_par1, go_sAug, go_augV, kN_eq, kNil_eq, kCons_eq, kT_eq, rdE_eq, rdO_fz, rdO_ol, ownE_eq, owO_ol, go_binL, go_binL1, go_binL2, oSw_eq, go_binR, go_binR1, go_sPut, go_put1, go_putO, go_put2, go_putP, go_putN, go_retF1, go_fLst, go_fl1, go_sOwn, go_own1, go_call, go_call1, kFR_ok, kFR_exc, go_callIo, go_io0, go_io1, go_io2, kIo_ok, kIo_exc, go_callN, go_calln1, go_calln2, go_okF, go_excF, kRun_next, kRun_ret, kRun_exc, finF_none, finF_some, finS_ol, go_finO, go_finX, go_items, go_items_lst, go_items_tup, go_rng1, go_rng1_ok, go_rng2, go_rng2_ok, go_zip, go_zip_l, go_zip_t, go_enum, go_enum_l, go_sFor, go_for1, kLoop_next, kLoop_cont, kLoop_brk, kLoop_ret, kLoop_exc, turn_next, turn_cont, go_lc, go_lc1, kLc_ok, elem_ok, go_yes, go_sl, go_sl1, go_sl2, go_sl3, go_noP, go_p, go_p1, go_rev, go_rev1, go_chain, go_ch1, go_ch2, go_ch3T, go_ch3F, go_ch4, go_dic, go_dic1, go_prs_nil, go_prs, go_prs1, go_prs2, go_prs3, go_prs4, kW_ok, go_fcall, go_fcall1, kRunW_ok, go_okW, go_cf, go_cf1, oAdd_int, oAdd_bl, atI_0, atI_1, atI_2, atI_3, ixN_0, ixN_1, ixN_2, sz_lit, List.getElem?_cons_zero, List.getElem?_cons_succ, List.set_cons_zero, List.set_cons_succ, List.nil_append, List.cons_append, List.append_nil, List.length_cons, List.length_nil, Nat.reduceSub, Nat.reduceLeDiff, Nat.zero_add, Option.bind_some, Option.map_some, reduceCtorEq, Int.reduceLT, Int.reduceLE, Int.reduceNeg, Int.reducePow, Int.reduceToNat, and_true, true_and, and_self, ite_true, ite_false, if_true, if_false, Bool.not_true, Bool.not_false, Bool.true_and, Bool.false_and, Bool.and_true, Bool.and_false, Bool.true_or, Bool.false_or, oSub, oNeg, oLt, oLe, oGt, oGe, oIs, oIsNot, Vs.isNon, oTru, oBl, oIx, oLen, oAbs, oIntC, oMax2, oMin2, oTupC, oLstC, oSl, keyD, decide_true, decide_false, plainE, fzE, gIx, List.filterMap_cons, List.filterMap_nil, wipeE, restE, List.all_cons, List.all_nil, List.getD_eq_getElem?_getD, Option.getD_some, oMod_ok, oFdiv_ok, oPow_lit, oMul_lit, oRepr_bl, oEq_str, oNe_str, oEq_int, oNe_int, oEq_bl, oNe_bl, oEq_nil, oNe_nil, oIsi_int, oIsi_bool, oIsi_listed, str_beq, v_fits _ _ _ tL tN]
      rw [kLc_ok (filter_len hd)]
      simp only [k_ok, k_exc, kS_ok, kS_exc, kq_next, kq_ret, kq_brk, kq_cont, kq_exc, kq_retF, go_ok, go_exc, go_next, go_ret, go_brk, go_cont, go_excS, go_retF, go_some, go_v, getV_fz, go_c, go_bin, go_bin1, go_bin2, go_un, go_un1, go_tru, go_tru1, go_bl, go_bl1, go_and, go_andT, go_andF, go_or, go_orT, go_orF, go_not, go_not1, go_andV, go_orV, go_andV1, go_orV1, go_andVT, go_andVF, go_orVT, go_orVF, go_notV, go_notV1, go_notV2, go_if, go_ifT, go_ifF, go_nil, go_cons, go_cons1, go_cons2, go_chk, go_lst, go_tup, go_lst1, go_tup1, go_cal, go_cal1, go_isi, go_isi1, go_seq, go_sRet, go_ret1, go_sExpr, go_ex1, go_sIf, go_sifT, go_sifF, go_optS, go_sAsg, go_asg1, go_sSet, go_set1, go_sPar, go_par1, go_sAug, go_augV, kN_eq, kNil_eq, kCons_eq, kT_eq, rdE_eq, rdO_fz, rdO_ol, ownE_eq, owO_ol, go_binL, go_binL1, go_binL2, oSw_eq, go_binR, go_binR1, go_sPut, go_put1, go_putO, go_put2, go_putP, go_putN, go_retF1, go_fLst, go_fl1, go_sOwn, go_own1, go_call, go_call1, kFR_ok, kFR_exc, go_callIo, go_io0, go_io1, go_io2, kIo_ok, kIo_exc, go_callN, go_calln1, go_calln2, go_okF, go_excF, kRun_next, kRun_ret, kRun_exc, finF_none, finF_some, finS_ol, go_finO, go_finX, go_items, go_items_lst, go_items_tup, go_rng1, go_rng1_ok, go_rng2, go_rng2_ok, go_zip, go_zip_l, go_zip_t, go_enum, go_enum_l, go_sFor, go_for1, kLoop_next, kLoop_cont, kLoop_brk, kLoop_ret, kLoop_exc, turn_next, turn_cont, go_lc, go_lc1, kLc_ok, elem_ok, go_yes, go_sl, go_sl1, go_sl2, go_sl3, go_noP, go_p, go_p1, go_rev, go_rev1, go_chain, go_ch1, go_ch2, go_ch3T, go_ch3F, go_ch4, go_dic, go_dic1, go_prs_nil, go_prs, go_prs1, go_prs2, go_prs3, go_prs4, kW_ok, go_fcall, go_fcall1, kRunW_ok, go_okW, go_cf, go_cf1, oAdd_int, oAdd_bl, atI_0, atI_1, atI_2, atI_3, ixN_0, ixN_1, ixN_2, sz_lit, List.getElem?_cons_zero, List.getElem?_cons_succ, List.set_cons_zero, List.set_cons_succ, List.nil_append, List.cons_append, List.append_nil, List.length_cons, List.length_nil, Nat.reduceSub, Nat.reduceLeDiff, Nat.zero_add, Option.bind_some, Option.map_some, reduceCtorEq, Int.reduceLT, Int.reduceLE, Int.reduceNeg, Int.reducePow, Int.reduceToNat, and_true, true_and, and_self, ite_true, ite_false, if_true, if_false, Bool.not_true, Bool.not_false, Bool.true_and, Bool.false_and, Bool.and_true, Bool.and_false, Bool.true_or, Bool.false_or, oSub, oNeg, oLt, oLe, oGt, oGe, oIs, oIsNot, Vs.isNon, oTru, oBl, oIx, oLen, oAbs, oIntC, oMax2, oMin2, oTupC, oLstC, oSl, keyD, decide_true, decide_false, plainE, fzE, gIx, List.filterMap_cons, List.filterMap_nil, wipeE, restE, List.all_cons, List.all_nil, List.getD_eq_getElem?_getD, Option.getD_some, oMod_ok, oFdiv_ok, oPow_lit, oMul_lit, oRepr_bl, oEq_str, oNe_str, oEq_int, oNe_int, oEq_bl, oNe_bl, oEq_nil, oNe_nil, oIsi_int, oIsi_bool, oIsi_listed, str_beq, isEmpty_filter_not, l1__law_rows_right_3, r0 _ _ _ tL tN, rd, l1__law_rows_right_4]
      refine go_filterC (fun d => !wth d .non (.int u)) rfl (by simp) (fun d _ => ?_) ?_
      · simp only [k_ok, k_exc, kS_ok, kS_exc, kq_next, kq_ret, kq_brk, kq_cont, kq_exc, kq_retF, go_ok, go_exc, go_next, go_ret, go_brk, go_cont, go_excS, go_retF, go_some, go_v, getV_fz, go_c, go_bin, go_bin1, go_bin2, go_un, go_un1, go_tru, go_tru1, go_bl, go_bl1, go_and, go_andT, go_andF, go_or, go_orT, go_orF, go_not, go_not1, go_andV, go_orV, go_andV1, go_orV1, go_andVT, go_andVF, go_orVT, go_orVF, go_notV, go_notV1, go_notV2, go_if, go_ifT, go_ifF, go_nil, go_cons, go_cons1, go_cons2, go_chk, go_lst, go_tup, go_lst1, go_tup1, go_cal, go_cal1, go_isi, go_isi1, go_seq, go_sRet, go_ret1, go_sExpr, go_ex1, go_sIf, go_sifT, go_sifF, go_optS, go_sAsg, go_asg1, go_sSet, go_set1, go_sPar, go_par1, go_sAug, go_augV, kN_eq, kNil_eq, kCons_eq, kT_eq, rdE_eq, rdO_fz, rdO_ol, ownE_eq, owO_ol, go_binL, go_binL1, go_binL2, oSw_eq, go_binR, go_binR1, go_sPut, go_put1, go_putO, go_put2, go_putP, go_putN, go_retF1, go_fLst, go_fl1, go_sOwn, go_own1, go_call, go_call1, kFR_ok, kFR_exc, go_callIo, go_io0, go_io1, go_io2, kIo_ok, kIo_exc, go_callN, go_calln1, go_calln2, go_okF, go_excF, kRun_next, kRun_ret, kRun_exc, finF_none, finF_some, finS_ol, go_finO, go_finX, go_items, go_items_lst, go_items_tup, go_rng1, go_rng1_ok, go_rng2, go_rng2_ok, go_zip, go_zip_l, go_zip_t, go_enum, go_enum_l, go_sFor, go_for1, kLoop_next, kLoop_cont, kLoop_brk, kLoop_ret, kLoop_exc, turn_next, turn_cont, go_lc, go_lc1, kLc_ok, elem_ok, go_yes, go_sl, go_sl1, go_sl2, go_sl3, go_noP, go_p, go_p1, go_rev, go_rev1, go_chain, go_ch1, go_ch2, go_ch3T, go_ch3F, go_ch4, go_dic, go_dic1, go_prs_nil, go_prs, go_prs1, go_prs2, go_prs3, go_prs4, kW_ok, go_fcall, go_fcall1, kRunW_ok, go_okW, go_cf, go_cf1, oAdd_int, oAdd_bl, atI_0, atI_1, atI_2, atI_3, ixN_0, ixN_1, ixN_2, sz_lit, List.getElem?_cons_zero, List.getElem?_cons_succ, List.set_cons_zero, List.set_cons_succ, List.nil_append, List.cons_append, List.append_nil, List.length_cons, List.length_nil, Nat.reduceSub, Nat.reduceLeDiff, Nat.zero_add, Option.bind_some, Option.map_some, reduceCtorEq, Int.reduceLT, Int.reduceLE, Int.reduceNeg, Int.reducePow, Int.reduceToNat, and_true, true_and, and_self, ite_true, ite_false, if_true, if_false, Bool.not_true, Bool.not_false, Bool.true_and, Bool.false_and, Bool.and_true, Bool.and_false, Bool.true_or, Bool.false_or, oSub, oNeg, oLt, oLe, oGt, oGe, oIs, oIsNot, Vs.isNon, oTru, oBl, oIx, oLen, oAbs, oIntC, oMax2, oMin2, oTupC, oLstC, oSl, keyD, decide_true, decide_false, plainE, fzE, gIx, List.filterMap_cons, List.filterMap_nil, wipeE, restE, List.all_cons, List.all_nil, List.getD_eq_getElem?_getD, Option.getD_some, oMod_ok, oFdiv_ok, oPow_lit, oMul_lit, oRepr_bl, oEq_str, oNe_str, oEq_int, oNe_int, oEq_bl, oNe_bl, oEq_nil, oNe_nil, oIsi_int, oIsi_bool, oIsi_listed, str_beq, v_fits _ _ _ tN tU]
      rw [kLc_ok (filter_len hd)]
      have hw := all_wth xs (.int l) (.int u)
      simp only [k_ok, k_exc, kS_ok, kS_exc, kq_next, kq_ret, kq_brk, kq_cont, kq_exc, kq_retF, go_ok, go_exc, go_next, go_ret, go_brk, go_cont, go_excS, go_retF, go_some, go_v, getV_fz, go_c, go_bin, go_bin1, go_bin2, go_un, go_un1, go_tru, go_tru1, go_bl, go_bl1, go_and, go_andT, go_andF, go_or, go_orT, go_orF, go_not, go_not1, go_andV, go_orV, go_andV1, go_orV1, go_andVT, go_andVF, go_orVT, go_orVF, go_notV, go_notV1, go_notV2, go_if, go_ifT, go_ifF, go_nil, go_cons, go_cons1, go_cons2, go_chk, go_lst, go_tup, go_lst1, go_tup1, go_cal, go_cal1, go_isi, go_isi1, go_seq, go_sRet, go_ret1, go_sExpr, go_ex1, go_sIf, go_sifT, go_sifF, go_optS, go_sAsg, go_asg1, go_sSet, go_set1, go_sPar, go_par1, go_sAug, go_augV, kN_eq, kNil_eq, kCons_eq, kT_eq, rdE_eq, rdO_fz, rdO_ol, ownE_eq, owO_ol, go_binL, go_binL1, go_binL2, oSw_eq, go_binR, go_binR1, go_sPut, go_put1, go_putO, go_put2, go_putP, go_putN, go_retF1, go_fLst, go_fl1, go_sOwn, go_own1, go_call, go_call1, kFR_ok, kFR_exc, go_callIo, go_io0, go_io1, go_io2, kIo_ok, kIo_exc, go_callN, go_calln1, go_calln2, go_okF, go_excF, kRun_next, kRun_ret, kRun_exc, finF_none, finF_some, finS_ol, go_finO, go_finX, go_items, go_items_lst, go_items_tup, go_rng1, go_rng1_ok, go_rng2, go_rng2_ok, go_zip, go_zip_l, go_zip_t, go_enum, go_enum_l, go_sFor, go_for1, kLoop_next, kLoop_cont, kLoop_brk, kLoop_ret, kLoop_exc, turn_next, turn_cont, go_lc, go_lc1, kLc_ok, elem_ok, go_yes, go_sl, go_sl1, go_sl2, go_sl3, go_noP, go_p, go_p1, go_rev, go_rev1, go_chain, go_ch1, go_ch2, go_ch3T, go_ch3F, go_ch4, go_dic, go_dic1, go_prs_nil, go_prs, go_prs1, go_prs2, go_prs3, go_prs4, kW_ok, go_fcall, go_fcall1, kRunW_ok, go_okW, go_cf, go_cf1, oAdd_int, oAdd_bl, atI_0, atI_1, atI_2, atI_3, ixN_0, ixN_1, ixN_2, sz_lit, List.getElem?_cons_zero, List.getElem?_cons_succ, List.set_cons_zero, List.set_cons_succ, List.nil_append, List.cons_append, List.append_nil, List.length_cons, List.length_nil, Nat.reduceSub, Nat.reduceLeDiff, Nat.zero_add, Option.bind_some, Option.map_some, reduceCtorEq, Int.reduceLT, Int.reduceLE, Int.reduceNeg, Int.reducePow, Int.reduceToNat, and_true, true_and, and_self, ite_true, ite_false, if_true, if_false, Bool.not_true, Bool.not_false, Bool.true_and, Bool.false_and, Bool.and_true, Bool.and_false, Bool.true_or, Bool.false_or, oSub, oNeg, oLt, oLe, oGt, oGe, oIs, oIsNot, Vs.isNon, oTru, oBl, oIx, oLen, oAbs, oIntC, oMax2, oMin2, oTupC, oLstC, oSl, keyD, decide_true, decide_false, plainE, fzE, gIx, List.filterMap_cons, List.filterMap_nil, wipeE, restE, List.all_cons, List.all_nil, List.getD_eq_getElem?_getD, Option.getD_some, oMod_ok, oFdiv_ok, oPow_lit, oMul_lit, oRepr_bl, oEq_str, oNe_str, oEq_int, oNe_int, oEq_bl, oNe_bl, oEq_nil, oNe_nil, oIsi_int, oIsi_bool, oIsi_listed, str_beq, isEmpty_filter_not, l1__law_rows_right_5, r0 _ _ _ tN tU, r0 _ _ _ tL tU, rd, hw]
      cases xs.all (wth · (.int l) .non) with
      | false =>
        simp only [k_ok, k_exc, kS_ok, kS_exc, kq_next, kq_ret, kq_brk, kq_cont, kq_exc, kq_retF, go_ok, go_exc, go_next, go_ret, go_brk, go_cont, go_excS, go_retF, go_some, go_v, getV_fz, go_c, go_bin, go_bin1, go_bin2, go_un, go_un1, go_tru, go_tru1, go_bl, go_bl1, go_and, go_andT, go_andF, go_or, go_orT, go_orF, go_not, go_not1, go_andV, go_orV, go_andV1, go_orV1, go_andVT, go_andVF, go_orVT, go_orVF, go_notV, go_notV1, go_notV2, go_if, go_ifT, go_ifF, go_nil, go_cons, go_cons1, go_cons2, go_chk, go_lst, go_tup, go_lst1, go_tup1, go_cal, go_cal1, go_isi, go_isi1, go_seq, go_sRet, go_ret1, go_sExpr, go_ex1, go_sIf, go_sifT, go_sifF, go_optS, go_sAsg, go_asg1, go_sSet, go_set1, go_sPar, go_par1, go_sAug, go_augV, kN_eq, kNil_eq, kCons_eq, kT_eq, rdE_eq, rdO_fz, rdO_ol, ownE_eq, owO_ol, go_binL, go_binL1, go_binL2, oSw_eq, go_binR, go_binR1, go_sPut, go_put1, go_putO, go_put2, go_putP, go_putN, go_retF1, go_fLst, go_fl1, go_sOwn, go_own1, go_call, go_call1, kFR_ok, kFR_exc, go_callIo, go_io0, go_io1, go_io2, kIo_ok, kIo_exc, go_callN, go_calln1, go_calln2, go_okF, go_excF, kRun_next, kRun_ret, kRun_exc, finF_none, finF_some, finS_ol, go_finO, go_finX, go_items, go_items_lst, go_items_tup, go_rng1, go_rng1_ok, go_rng2, go_rng2_ok, go_zip, go_zip_l, go_zip_t, go_enum, go_enum_l, go_sFor, go_for1, kLoop_next, kLoop_cont, kLoop_brk, kLoop_ret, kLoop_exc, turn_next, turn_cont, go_lc, go_lc1, kLc_ok, elem_ok, go_yes, go_sl, go_sl1, go_sl2, go_sl3, go_noP, go_p, go_p1, go_rev, go_rev1, go_chain, go_ch1, go_ch2, go_ch3T, go_ch3F, go_ch4, go_dic, go_dic1, go_prs_nil, go_prs, go_prs1, go_prs2, go_prs3, go_prs4, kW_ok, go_fcall, go_fcall1, kRunW_ok, go_okW, go_cf, go_cf1, oAdd_int, oAdd_bl, atI_0, atI_1, atI_2, atI_3, ixN_0, ixN_1, ixN_2, sz_lit, List.getElem?_cons_zero, List.getElem?_cons_succ, List.set_cons_zero, List.set_cons_succ, List.nil_append, List.cons_append, List.append_nil, List.length_cons, List.length_nil, Nat.reduceSub, Nat.reduceLeDiff, Nat.zero_add, Option.bind_some, Option.map_some, reduceCtorEq, Int.reduceLT, Int.reduceLE, Int.reduceNeg, Int.reducePow, Int.reduceToNat, and_true, true_and, and_self, ite_true, ite_false, if_true, if_false, Bool.not_true, Bool.not_false, Bool.true_and, Bool.false_and, Bool.and_true, Bool.and_false, Bool.true_or, Bool.false_or, oSub, oNeg, oLt, oLe, oGt, oGe, oIs, oIsNot, Vs.isNon, oTru, oBl, oIx, oLen, oAbs, oIntC, oMax2, oMin2, oTupC, oLstC, oSl, keyD, decide_true, decide_false, plainE, fzE, gIx, List.filterMap_cons, List.filterMap_nil, wipeE, restE, List.all_cons, List.all_nil, List.getD_eq_getElem?_getD, Option.getD_some, oMod_ok, oFdiv_ok, oPow_lit, oMul_lit, oRepr_bl, oEq_str, oNe_str, oEq_int, oNe_int, oEq_bl, oNe_bl, oEq_nil, oNe_nil, oIsi_int, oIsi_bool, oIsi_listed, str_beq, turn_next]
        exact ⟨_, _, _, _, rfl⟩
      | true =>
        simp only [k_ok, k_exc, kS_ok, kS_exc, kq_next, kq_ret, kq_brk, kq_cont, kq_exc, kq_retF, go_ok, go_exc, go_next, go_ret, go_brk, go_cont, go_excS, go_retF, go_some, go_v, getV_fz, go_c, go_bin, go_bin1, go_bin2, go_un, go_un1, go_tru, go_tru1, go_bl, go_bl1, go_and, go_andT, go_andF, go_or, go_orT, go_orF, go_not, go_not1, go_andV, go_orV, go_andV1, go_orV1, go_andVT, go_andVF, go_orVT, go_orVF, go_notV, go_notV1, go_notV2, go_if, go_ifT, go_ifF, go_nil, go_cons, go_cons1, go_cons2, go_chk, go_lst, go_tup, go_lst1, go_tup1, go_cal, go_cal1, go_isi, go_isi1, go_seq, go_sRet, go_ret1, go_sExpr, go_ex1, go_sIf, go_sifT, go_sifF, go_optS, go_sAsg, go_asg1, go_sSet, go_set1, go_sPar, go_par1, go_sAug, go_augV, kN_eq, kNil_eq, kCons_eq, kT_eq, rdE_eq, rdO_fz, rdO_ol, ownE_eq, owO_ol, go_binL, go_binL1, go_binL2, oSw_eq, go_binR, go_binR1, go_sPut, go_put1, go_putO, go_put2, go_putP, go_putN, go_retF1, go_fLst, go_fl1, go_sOwn, go_own1, go_call, go_call1, kFR_ok, kFR_exc, go_callIo, go_io0, go_io1, go_io2, kIo_ok, kIo_exc, go_callN, go_calln1, go_calln2, go_okF, go_excF, kRun_next, kRun_ret, kRun_exc, finF_none, finF_some, finS_ol, go_finO, go_finX, go_items, go_items_lst, go_items_tup, go_rng1, go_rng1_ok, go_rng2, go_rng2_ok, go_zip, go_zip_l, go_zip_t, go_enum, go_enum_l, go_sFor, go_for1, kLoop_next, kLoop_cont, kLoop_brk, kLoop_ret, kLoop_exc, turn_next, turn_cont, go_lc, go_lc1, kLc_ok, elem_ok, go_yes, go_sl, go_sl1, go_sl2, go_sl3, go_noP, go_p, go_p1, go_rev, go_rev1, go_chain, go_ch1, go_ch2, go_ch3T, go_ch3F, go_ch4, go_dic, go_dic1, go_prs_nil, go_prs, go_prs1, go_prs2, go_prs3, go_prs4, kW_ok, go_fcall, go_fcall1, kRunW_ok, go_okW, go_cf, go_cf1, oAdd_int, oAdd_bl, atI_0, atI_1, atI_2, atI_3, ixN_0, ixN_1, ixN_2, sz_lit, List.getElem?_cons_zero, List.getElem?_cons_succ, List.set_cons_zero, List.set_cons_succ, List.nil_append, List.cons_append, List.append_nil, List.length_cons, List.length_nil, Nat.reduceSub, Nat.reduceLeDiff, Nat.zero_add, Option.bind_some, Option.map_some, reduceCtorEq, Int.reduceLT, Int.reduceLE, Int.reduceNeg, Int.reducePow, Int.reduceToNat, and_true, true_and, and_self, ite_true, ite_false, if_true, if_false, Bool.not_true, Bool.not_false, Bool.true_and, Bool.false_and, Bool.and_true, Bool.and_false, Bool.true_or, Bool.false_or, oSub, oNeg, oLt, oLe, oGt, oGe, oIs, oIsNot, Vs.isNon, oTru, oBl, oIx, oLen, oAbs, oIntC, oMax2, oMin2, oTupC, oLstC, oSl, keyD, decide_true, decide_false, plainE, fzE, gIx, List.filterMap_cons, List.filterMap_nil, wipeE, restE, List.all_cons, List.all_nil, List.getD_eq_getElem?_getD, Option.getD_some, oMod_ok, oFdiv_ok, oPow_lit, oMul_lit, oRepr_bl, oEq_str, oNe_str, oEq_int, oNe_int, oEq_bl, oNe_bl, oEq_nil, oNe_nil, oIsi_int, oIsi_bool, oIsi_listed, str_beq, turn_next]
        exact ⟨_, _, _, _, rfl⟩
  · have rd : ∀ lo hi, rowD (.lst xs) c lo hi = false := fun lo hi => by simp [rowD, hk]
    simp only [k_ok, k_exc, kS_ok, kS_exc, kq_next, kq_ret, kq_brk, kq_cont, kq_exc, kq_retF, go_ok, go_exc, go_next, go_ret, go_brk, go_cont, go_excS, go_retF, go_some, go_v, getV_fz, go_c, go_bin, go_bin1, go_bin2, go_un, go_un1, go_tru, go_tru1, go_bl, go_bl1, go_and, go_andT, go_andF, go_or, go_orT, go_orF, go_not, go_not1, go_andV, go_orV, go_andV1, go_orV1, go_andVT, go_andVF, go_orVT, go_orVF, go_notV, go_notV1, go_notV2, go_if, go_ifT, go_ifF, go_nil, go_cons, go_cons1, go_cons2, go_chk, go_lst, go_tup, go_lst1, go_tup1, go_cal, go_cal1, go_isi, go_isi1, go_seq, go_sRet, go_ret1, go_sExpr, go_ex1, go_sIf, go_sifT, go_sifF, go_optS, go_sAsg, go_asg1, go_sSet, go_set1, go_sPar, go_par1, go_sAug, go_augV, kN_eq, kNil_eq, kCons_eq, kT_eq, rdE_eq, rdO_fz, rdO_ol, ownE_eq, owO_ol, go_binL, go_binL1, go_binL2, oSw_eq, go_binR, go_binR1, go_sPut, go_put1, go_putO, go_put2, go_putP, go_putN, go_retF1, go_fLst, go_fl1, go_sOwn, go_own1, go_call, go_call1, kFR_ok, kFR_exc, go_callIo, go_io0, go_io1, go_io2, kIo_ok, kIo_exc, go_callN, go_calln1, go_calln2, go_okF, go_excF, kRun_next, kRun_ret, kRun_exc, finF_none, finF_some, finS_ol, go_finO, go_finX, go_items, go_items_lst, go_items_tup, go_rng1, go_rng1_ok, go_rng2, go_rng2_ok, go_zip, go_zip_l, go_zip_t, go_enum, go_enum_l, go_sFor, go_for1, kLoop_next, kLoop_cont, kLoop_brk, kLoop_ret, kLoop_exc, turn_next, turn_cont, go_lc, go_lc1, kLc_ok, elem_ok, go_yes, go_sl, go_sl1, go_sl2, go_sl3, go_noP, go_p, go_p1, go_rev, go_rev1, go_chain, go_ch1, go_ch2, go_ch3T, go_ch3F, go_ch4, go_dic, go_dic1, go_prs_nil, go_prs, go_prs1, go_prs2, go_prs3, go_prs4, kW_ok, go_fcall, go_fcall1, kRunW_ok, go_okW, go_cf, go_cf1, oAdd_int, oAdd_bl, atI_0, atI_1, atI_2, atI_3, ixN_0, ixN_1, ixN_2, sz_lit, List.getElem?_cons_zero, List.getElem?_cons_succ, List.set_cons_zero, List.set_cons_succ, List.nil_append, List.cons_append, List.append_nil, List.length_cons, List.length_nil, Nat.reduceSub, Nat.reduceLeDiff, Nat.zero_add, Option.bind_some, Option.map_some, reduceCtorEq, Int.reduceLT, Int.reduceLE, Int.reduceNeg, Int.reducePow, Int.reduceToNat, and_true, true_and, and_self, ite_true, ite_false, if_true, if_false, Bool.not_true, Bool.not_false, Bool.true_and, Bool.false_and, Bool.and_true, Bool.and_false, Bool.true_or, Bool.false_or, oSub, oNeg, oLt, oLe, oGt, oGe, oIs, oIsNot, Vs.isNon, oTru, oBl, oIx, oLen, oAbs, oIntC, oMax2, oMin2, oTupC, oLstC, oSl, keyD, decide_true, decide_false, plainE, fzE, gIx, List.filterMap_cons, List.filterMap_nil, wipeE, restE, List.all_cons, List.all_nil, List.getD_eq_getElem?_getD, Option.getD_some, oMod_ok, oFdiv_ok, oPow_lit, oMul_lit, oRepr_bl, oEq_str, oNe_str, oEq_int, oNe_int, oEq_bl, oNe_bl, oEq_nil, oNe_nil, oIsi_int, oIsi_bool, oIsi_listed, str_beq, decide_eq_false hk, l1__law_rows_right_1, l1__law_rows_right_2, l1__law_rows_right_3, l1__law_rows_right_4, l1__law_rows_right_5, r0 _ _ _ tN tN, r0 _ _ _ tL tN, r0 _ _ _ tN tU, r0 _ _ _ tL tU, rd, turn_next]
    exact ⟨_, _, _, _, rfl⟩
theorem turn_tup (W : List D) (m l u c : Int) (xs : List D) (a b d : Option T) (hd : xs.length ≤ 1000) :
    Go (Turn (rowI W m l u (.tup xs))) (l1__law_rows_right [some (.ol (some 0) W), some (.fz (.int m)), some (.fz (.int l)), some (.fz (.int u)), some (.fz (.tup xs)), some (.fz (.bl true)), some (.fz (.int c)), a, b, d, none]) := by
  have hf : Fine (.tup xs) := hd
  have tL : Lim (.int l) := trivial
  have tU : Lim (.int u) := trivial
  have tN : Lim .non := trivial
  have r0 := fun k lo hi h1 h2 => v_is_row (.tup xs) k lo hi h1 h2 hf
  unfold l1__law_rows_right
  by_cases hk : (xs.length : Int) = c
  · have rd : ∀ lo hi, rowD (.tup xs) c lo hi = xs.all (wth · lo hi) := fun lo hi => by simp [rowD, hk]
    simp only [k_ok, k_exc, kS_ok, kS_exc, kq_next, kq_ret, kq_brk, kq_cont, kq_exc, kq_retF, go_ok, go_exc, go_next, go_ret, go_brk, go_cont, go_excS, go_retF, go_some, go_v, getV_fz, go_c, go_bin, go_bin1, go_bin2, go_un, go_un1, go_tru, go_tru1, go_bl, go_bl1, go_and, go_andT, go_andF, go_or, go_orT, go_orF, go_not, go_not1, go_andV, go_orV, go_andV1, go_orV1, go_andVT, go_andVF, go_orVT, go_orVF, go_notV, go_notV1, go_notV2, go_if, go_ifT, go_ifF, go_nil, go_cons, go_cons1, go_cons2, go_chk, go_lst, go_tup, go_lst1, go_tup1, go_cal, go_cal1, go_isi, go_isi1, go_seq, go_sRet, go_ret1, go_sExpr, go_ex1, go_sIf, go_sifT, go_sifF, go_optS, go_sAsg, go_asg1, go_sSet, go_set1, go_sPar, go_par1, go_sAug, go_augV, kN_eq, kNil_eq, kCons_eq, kT_eq, rdE_eq, rdO_fz, rdO_ol, ownE_eq, owO_ol, go_binL, go_binL1, go_binL2, oSw_eq, go_binR, go_binR1, go_sPut, go_put1, go_putO, go_put2, go_putP, go_putN, go_retF1, go_fLst, go_fl1, go_sOwn, go_own1, go_call, go_call1, kFR_ok, kFR_exc, go_callIo, go_io0, go_io1, go_io2, kIo_ok, kIo_exc, go_callN, go_calln1, go_calln2, go_okF, go_excF, kRun_next, kRun_ret, kRun_exc, finF_none, finF_some, finS_ol, go_finO, go_finX, go_items, go_items_lst, go_items_tup, go_rng1, go_rng1_ok, go_rng2, go_rng2_ok, go_zip, go_zip_l, go_zip_t, go_enum, go_enum_l, go_sFor, go_for1, kLoop_next, kLoop_cont, kLoop_brk, kLoop_ret, kLoop_exc, turn_next, turn_cont, go_lc, go_lc1, kLc_ok, elem_ok, go_yes, go_sl, go_sl1, go_sl2, go_sl3, go_noP, go_p, go_p1, go_rev, go_rev1, go_chain, go_ch1, go_ch2, go_ch3T, go_ch3F, go_ch4, go_dic, go_dic1, go_prs_nil, go_prs, go_prs1, go_prs2, go_prs3, go_prs4, kW_ok, go_fcall, go_fcall1, kRunW_ok, go_okW, go_cf, go_cf1, oAdd_int, oAdd_bl, atI_0, atI_1, atI_2, atI_3, ixN_0, ixN_1, ixN_2, sz_lit, List.getElem?_cons_zero, List.getElem?_cons_succ, List.set_cons_zero, List.set_cons_succ, List.nil_append, List.cons_append, List.append_nil, List.length_cons, List.length_nil, Nat.reduceSub, Nat.reduceLeDiff, Nat.zero_add, Option.bind_some, Option.map_some, reduceCtorEq, Int.reduceLT, Int.reduceLE, Int.reduceNeg, Int.reducePow, Int.reduceToNat, and_true, true_and, and_self, ite_true, ite_false, if_true, if_false, Bool.not_true, Bool.not_false, Bool.true_and, Bool.false_and, Bool.and_true, Bool.and_false, Bool.true_or, Bool.false_or, oSub, oNeg, oLt, oLe, oGt, oGe, oIs, oIsNot, Vs.isNon, oTru, oBl, oIx, oLen, oAbs, oIntC, oMax2, oMin2, oTupC, oLstC, oSl, keyD, decide_true, decide_false, plainE, fzE, gIx, List.filterMap_cons, List.filterMap_nil, wipeE, restE, List.all_cons, List.all_nil, List.getD_eq_getElem?_getD, Option.getD_some, oMod_ok, oFdiv_ok, oPow_lit, oMul_lit, oRepr_bl, oEq_str, oNe_str, oEq_int, oNe_int, oEq_bl, oNe_bl, oEq_nil, oNe_nil, oIsi_int, oIsi_bool, oIsi_listed, str_beq, decide_eq_true hk]
    refine go_filterC (fun d => !isI d) rfl (by simp) (fun d _ => ?_) ?_
    · simp only [k_ok, k_exc, kS_ok, kS_exc, kq_next, kq_ret, kq_brk, kq_cont, kq_exc, kq_retF, go_ok, go_exc, go_next, go_ret, go_brk, go_cont, go_excS, go_retF, go_some, go_v, getV_fz, go_c, go_bin, go_bin1, go_bin2, go_un, go_un1, go_tru, go_tru1, go_bl, go_bl1, go_and, go_andT, go_andF, go_or, go_orT, go_orF, go_not, go_not1, go_andV, go_orV, go_andV1, go_orV1, go_andVT, go_andVF, go_orVT, go_orVF, go_notV, go_notV1, go_notV2, go_if, go_ifT, go_ifF, go_nil, go_cons, go_cons1, go_cons2, go_chk, go_lst, go_tup, go_lst1, go_tup1, go_cal, go_cal1, go_isi, go_isi1, go_seq, go_sRet, go_ret1, go_sExpr, go_ex1, go_sIf, go_sifT, go_sifF, go_optS, go_sAsg, go_asg1, go_sSet, go_set1, go_sPar, go_par1, go_sAug, go_augV, kN_eq, kNil_eq, kCons_eq, kT_eq, rdE_eq, rdO_fz, rdO_ol, ownE_eq, owO_ol, go_binL, go_binL1, go_binL2, oSw_eq, go_binR, go_binR1, go_sPut, go_put1, go_putO, go_put2, go_putP, go_putN, go_retF1, go_fLst, go_fl1, go_sOwn, go_own1, go_call, go_call1, kFR_ok, kFR_exc, go_callIo, go_io0, go_io1, go_io2, kIo_ok, kIo_exc, go_callN, go_calln1, go_calln2, go_okF, go_excF, kRun_next, kRun_ret, kRun_exc, finF_none, finF_some, finS_ol, go_finO, go_finX, go_items, go_items_lst, go_items_tup, go_rng1, go_rng1_ok, go_rng2, go_rng2_ok, go_zip, go_zip_l, go_zip_t, go_enum, go_enum_l, go_sFor, go_for1, kLoop_next, kLoop_cont, kLoop_brk, kLoop_ret, kLoop_exc, turn_next, turn_cont, go_lc, go_lc1, kLc_ok, elem_ok, go_yes, go_sl, go_sl1, go_sl2, go_sl3, go_noP, go_p, go_p1, go_rev, go_rev1, go_chain, go_ch1, go_ch2, go_ch3T, go_ch3F, go_ch4, go_dic, go_dic1, go_prs_nil, go_prs, go_prs1, go_prs2, go_prs3, go_prs4, kW_ok, go_fcall, go_fcall1, kRunW_ok, go_okW, go_cf, go_cf1, oAdd_int, oAdd_bl, atI_0, atI_1, atI_2, atI_3, ixN_0, ixN_1, ixN_2, sz_lit, List.getElem?_cons_zero, List.getElem?_cons_succ, List.set_cons_zero, List.set_cons_succ, List.nil_append, List.cons_append, List.append_nil, List.length_cons, List.length_nil, Nat.reduceSub, Nat.reduceLeDiff, Nat.zero_add, Option.bind_some, Option.map_some, reduceCtorEq, Int.reduceLT, Int.reduceLE, Int.reduceNeg, Int.reducePow, Int.reduceToNat, and_true, true_and, and_self, ite_true, ite_false, if_true, if_false, Bool.not_true, Bool.not_false, Bool.true_and, Bool.false_and, Bool.and_true, Bool.and_false, Bool.true_or, Bool.false_or, oSub, oNeg, oLt, oLe, oGt, oGe, oIs, oIsNot, Vs.isNon, oTru, oBl, oIx, oLen, oAbs, oIntC, oMax2, oMin2, oTupC, oLstC, oSl, keyD, decide_true, decide_false, plainE, fzE, gIx, List.filterMap_cons, List.filterMap_nil, wipeE, restE, List.all_cons, List.all_nil, List.getD_eq_getElem?_getD, Option.getD_some, oMod_ok, oFdiv_ok, oPow_lit, oMul_lit, oRepr_bl, oEq_str, oNe_str, oEq_int, oNe_int, oEq_bl, oNe_bl, oEq_nil, oNe_nil, oIsi_int, oIsi_bool, oIsi_listed, str_beq, v_plain]
    rw [kLc_ok (filter_len hd)]
    simp only [k_ok, k_exc, kS_ok, kS_exc, kq_next, kq_ret, kq_brk, kq_cont, kq_exc, kq_retF, go_ok, go_exc, go_next, go_ret, go_brk, go_cont, go_excS, go_retF, go_some, go_v, getV_fz, go_c, go_bin, go_bin1, go_bin2, go_un, go_un1, go_tru, go_tru1, go_bl, go_bl1, go_and, go_andT, go_andF, go_or, go_orT, go_orF, go_not, go_not1, go_andV, go_orV, go_andV1, go_orV1, go_andVT, go_andVF, go_orVT, go_orVF, go_notV, go_notV1, go_notV2, go_if, go_ifT, go_ifF, go_nil, go_cons, go_cons1, go_cons2, go_chk, go_lst, go_tup, go_lst1, go_tup1, go_cal, go_cal1, go_isi, go_isi1, go_seq, go_sRet, go_ret1, go_sExpr, go_ex1, go_sIf, go_sifT, go_sifF, go_optS, go_sAsg, go_asg1, go_sSet, go_set1, go_sPar, go_par1, go_sAug, go_augV, kN_eq, kNil_eq, kCons_eq, kT_eq, rdE_eq, rdO_fz, rdO_ol, ownE_eq, owO_ol, go_binL, go_binL1, go_binL2, oSw_eq, go_binR, go_binR1, go_sPut, go_put1, go_putO, go_put2, go_putP, go_putN, go_retF1, go_fLst, go_fl1, go_sOwn, go_own1, go_call, go_call1, kFR_ok, kFR_exc, go_callIo, go_io0, go_io1, go_io2, kIo_ok, kIo_exc, go_callN, go_calln1, go_calln2, go_okF, go_excF, kRun_next, kRun_ret, kRun_exc, finF_none, finF_some, finS_ol, go_finO, go_finX, go_items, go_items_lst, go_items_tup, go_rng1, go_rng1_ok, go_rng2, go_rng2_ok, go_zip, go_zip_l, go_zip_t, go_enum, go_enum_l, go_sFor, go_for1, kLoop_next, kLoop_cont, kLoop_brk, kLoop_ret, kLoop_exc, turn_next, turn_cont, go_lc, go_lc1, kLc_ok, elem_ok, go_yes, go_sl, go_sl1, go_sl2, go_sl3, go_noP, go_p, go_p1, go_rev, go_rev1, go_chain, go_ch1, go_ch2, go_ch3T, go_ch3F, go_ch4, go_dic, go_dic1, go_prs_nil, go_prs, go_prs1, go_prs2, go_prs3, go_prs4, kW_ok, go_fcall, go_fcall1, kRunW_ok, go_okW, go_cf, go_cf1, oAdd_int, oAdd_bl, atI_0, atI_1, atI_2, atI_3, ixN_0, ixN_1, ixN_2, sz_lit, List.getElem?_cons_zero, List.getElem?_cons_succ, List.set_cons_zero, List.set_cons_succ, List.nil_append, List.cons_append, List.append_nil, List.length_cons, List.length_nil, Nat.reduceSub, Nat.reduceLeDiff, Nat.zero_add, Option.bind_some, Option.map_some, reduceCtorEq, Int.reduceLT, Int.reduceLE, Int.reduceNeg, Int.reducePow, Int.reduceToNat, and_true, true_and, and_self, ite_true, ite_false, if_true, if_false, Bool.not_true, Bool.not_false, Bool.true_and, Bool.false_and, Bool.and_true, Bool.and_false, Bool.true_or, Bool.false_or, oSub, oNeg, oLt, oLe, oGt, oGe, oIs, oIsNot, Vs.isNon, oTru, oBl, oIx, oLen, oAbs, oIntC, oMax2, oMin2, oTupC, oLstC, oSl, keyD, decide_true, decide_false, plainE, fzE, gIx, List.filterMap_cons, List.filterMap_nil, wipeE, restE, List.all_cons, List.all_nil, List.getD_eq_getElem?_getD, Option.getD_some, oMod_ok, oFdiv_ok, oPow_lit, oMul_lit, oRepr_bl, oEq_str, oNe_str, oEq_int, oNe_int, oEq_bl, oNe_bl, oEq_nil, oNe_nil, oIsi_int, oIsi_bool, oIsi_listed, str_beq, isEmpty_filter_not, l1__law_rows_right_1, r0 _ _ _ tN tN, rd, wth_nn, l1__law_rows_right_2]
    cases hA : xs.all isI with
    | false =>
      have hz : ∀ lo hi, xs.all (wth · lo hi) = false := fun lo hi => all_wth_false hA
      simp only [k_ok, k_exc, kS_ok, kS_exc, kq_next, kq_ret, kq_brk, kq_cont, kq_exc, kq_retF, go_ok, go_exc, go_next, go_ret, go_brk, go_cont, go_excS, go_retF, go_some, go_v, getV_fz, go_c, go_bin, go_bin1, go_bin2, go_un, go_un1, go_tru, go_tru1, go_bl, go_bl1, go_and, go_andT, go_andF, go_or, go_orT, go_orF, go_not, go_not1, go_andV, go_orV, go_andV1, go_orV1, go_andVT, go_andVF, go_orVT, go_orVF, go_notV, go_notV1, go_notV2, go_if, go_ifT, go_ifF, go_nil, go_cons, go_cons1, go_cons2, go_chk, go_lst, go_tup, go_lst1, go_tup1, go_cal, go_cal1, go_isi, go_isi1, go_seq, go_sRet, go_ret1, go_sExpr, go_ex1, go_sIf, go_sifT, go_sifF, go_optS, go_sAsg, go_asg1, go_sSet, go_set1, go_sPar, go_par1, go_sAug, go_augV, kN_eq, kNil_eq, kCons_eq, kT_eq, rdE_eq, rdO_fz, rdO_ol, ownE_eq, owO_ol, go_binL, go_binL1, go_binL2, oSw_eq, go_binR, go_binR1, go_sPut, go_put1, go_putO, go_put2, go_putP, go_putN, go_retF1, go_fLst, go_fl1, go_sOwn, go_own1, go_call, go_call1, kFR_ok, kFR_exc, go_callIo, go_io0, go_io1, go_io2, kIo_ok, kIo_exc, go_callN, go_calln1, go_calln2, go_okF, go_excF, kRun_next, kRun_ret, kRun_exc, finF_none, finF_some, finS_ol, go_finO, go_finX, go_items, go_items_lst, go_items_tup, go_rng1, go_rng1_ok, go_rng2, go_rng2_ok, go_zip, go_zip_l, go_zip_t, go_enum, go_enum_l, go_sFor, go_for1, kLoop_next, kLoop_cont, kLoop_brk, kLoop_ret, kLoop_exc, turn_next, turn_cont, go_lc, go_lc1, kLc_ok, elem_ok, go_yes, go_sl, go_sl1, go_sl2, go_sl3, go_noP, go_p, go_p1, go_rev, go_rev1, go_chain, go_ch1, go_ch2, go_ch3T, go_ch3F, go_ch4, go_dic, go_dic1, go_prs_nil, go_prs, go_prs1, go_prs2, go_prs3, go_prs4, kW_ok, go_fcall, go_fcall1, kRunW_ok, go_okW, go_cf, go_cf1, oAdd_int, oAdd_bl, atI_0, atI_1, atI_2, atI_3, ixN_0, ixN_1, ixN_2, sz_lit, List.getElem?_cons_zero, List.getElem?_cons_succ, List.set_cons_zero, List.set_cons_succ, List.nil_append, List.cons_append, List.append_nil, List.length_cons, List.length_nil, Nat.reduceSub, Nat.reduceLeDiff, Nat.zero_add, Option.bind_some, Option.map_some, reduceCtorEq, Int.reduceLT, Int.reduceLE, Int.reduceNeg, Int.reducePow, Int.reduceToNat, and_true, true_and, and_self, ite_true, ite_false, if_true, if_false, Bool.not_true, Bool.not_false, Bool.true_and, Bool.false_and, Bool.and_true, Bool.and_false, Bool.true_or, Bool.false_or, oSub, oNeg, oLt, oLe, oGt, oGe, oIs, oIsNot, Vs.isNon, oTru, oBl, oIx, oLen, oAbs, oIntC, oMax2, oMin2, oTupC, oLstC, oSl, keyD, decide_true, decide_false, plainE, fzE, gIx, List.filterMap_cons, List.filterMap_nil, wipeE, restE, List.all_cons, List.all_nil, List.getD_eq_getElem?_getD, Option.getD_some, oMod_ok, oFdiv_ok, oPow_lit, oMul_lit, oRepr_bl, oEq_str, oNe_str, oEq_int, oNe_int, oEq_bl, oNe_bl, oEq_nil, oNe_nil, oIsi_int, oIsi_bool, oIsi_listed, str_beq, l1__law_rows_right_3, l1__law_rows_right_4, l1__law_rows_right_5, r0 _ _ _ tL tN, r0 _ _ _ tN tU, r0 _ _ _ tL tU, rd, hz, turn_next]
      exact ⟨_, _, _, _, rfl⟩
    | true =>
      simp only [k_ok, k_exc, kS_ok, kS_exc, kq_next, kq_ret, kq_brk, kq_cont, kq_exc, kq_retF, go_ok, go_exc, go_next, go_ret, go_brk, go_cont, go_excS, go_retF, go_some, go_v, getV_fz, go_c, go_bin, go_bin1, go_bin2, go_un, go_un1, go_tru, go_tru1, go_bl, go_bl1, go_and, go_andT, go_andF, go_or, go_orT, go_orF, go_not, go_not1, go_andV, go_orV, go_andV1, go_orV1, go_andVT, go_andVF, go_orVT, go_orVF, go_notV, go_notV1, go_notV2, go_if, go_ifT, go_ifF, go_nil, go_cons, go_cons1, go_cons2, go_chk, go_lst, go_tup, go_lst1, go_tup1, go_cal, go_cal1, go_isi, go_isi1, go_seq, go_sRet, go_ret1, go_sExpr, go_ex1, go_sIf, go_sifT, go_sifF, go_optS, go_sAsg, go_asg1, go_sSet, go_set1, go_sPar, go_par1, go_sAug, go_augV, kN_eq, kNil_eq, kCons_eq, kT_eq, rdE_eq, rdO_fz, rdO_ol, ownE_eq, owO_ol, go_binL, go_binL1, go_binL2, oSw_eq, go_binR, go_binR1, go_sPut, go_put1, go_putO, go_put2, go_putP, go_putN, go_retF1, go_fLst, go_fl1, go_sOwn, go_own1, go_call, go_call1, kFR_ok, kFR_exc, go_callIo, go_io0, go_io1, go_io2, kIo_ok, kIo_exc, go_callN, go_calln1, go_calln2, go_okF, go_excF, kRun_next, kRun_ret, kRun_exc, finF_none, finF_some, finS_ol, go_finO, go_finX, go_items, go_items_lst, go_items_tup, go_rng1, go_rng1_ok, go_rng2, go_rng2_ok, go_zip, go_zip_l, go_zip_t, go_enum, go_enum_l, go_sFor, go_for1, kLoop_next, kLoop_cont, kLoop_brk, kLoop_ret, kLoop_exc, turn_next, turn_cont, go_lc, go_lc1, kLc_ok, elem_ok, go_yes, go_sl, go_sl1, go_sl2, go_sl3, go_noP, go_p, go_p1, go_rev, go_rev1, go_chain, go_ch1, go_ch2, go_ch3T, go_ch3F, go_ch4, go_dic, go_dic1, go_prs_nil, go_prs, go_prs1, go_prs2, go_prs3, go_prs4, kW_ok, go_fcall, go_fcall1, kRunW_ok, go_okW, go_cf, go_cf1, oAdd_int, oAdd_bl, atI_0, atI_1, atI_2, atI_3, ixN_0, ixN_1, ixN_2, sz_lit, List.getElem?_cons_zero, List.getElem?_cons_succ, List.set_cons_zero, List.set_cons_succ, List.nil_append, List.cons_append, List.append_nil, List.length_cons, List.length_nil, Nat.reduceSub, Nat.reduceLeDiff, Nat.zero_add, Option.bind_some, Option.map_some, reduceCtorEq, Int.reduceLT, Int.reduceLE, Int.reduceNeg, Int.reducePow, Int.reduceToNat, and_true, true_and, and_self, ite_true, ite_false, if_true, if_false, Bool.not_true, Bool.not_false, Bool.true_and, Bool.false_and, Bool.and_true, Bool.and_false, Bool.true_or, Bool.false_or, oSub, oNeg, oLt, oLe, oGt, oGe, oIs, oIsNot, Vs.isNon, oTru, oBl, oIx, oLen, oAbs, oIntC, oMax2, oMin2, oTupC, oLstC, oSl, keyD, decide_true, decide_false, plainE, fzE, gIx, List.filterMap_cons, List.filterMap_nil, wipeE, restE, List.all_cons, List.all_nil, List.getD_eq_getElem?_getD, Option.getD_some, oMod_ok, oFdiv_ok, oPow_lit, oMul_lit, oRepr_bl, oEq_str, oNe_str, oEq_int, oNe_int, oEq_bl, oNe_bl, oEq_nil, oNe_nil, oIsi_int, oIsi_bool, oIsi_listed, str_beq]
      refine go_filterC (fun d => !wth d (.int l) .non) rfl (by simp) (fun d _ => ?_) ?_
      · simp only [k_ok, k_exc, kS_ok, kS_exc, kq_next, kq_ret, kq_brk, kq_cont, kq_exc, kq_retF, go_ok, go_exc, go_next, go_ret, go_brk, go_cont, go_excS, go_retF, go_some, go_v, getV_fz, go_c, go_bin, go_bin1, go_bin2, go_un, go_un1, go_tru, go_tru1, go_bl, go_bl1, go_and, go_andT, go_andF, go_or, go_orT, go_orF, go_not, go_not1, go_andV, go_orV, go_andV1, go_orV1, go_andVT, go_andVF, go_orVT, go_orVF, go_notV, go_notV1, go_notV2, go_if, go_ifT, go_ifF, go_nil, go_cons, go_cons1, go_cons2, go_chk, go_lst, go_tup, go_lst1, go_tup1, go_cal, go_cal1, go_isi, go_isi1, go_seq, go_sRet, go_ret1, go_sExpr, go_ex1, go_sIf, go_sifT, go_sifF, go_optS, go_sAsg, go_asg1, go_sSet, go_set1, go_sPar, go_par1, go_sAug, go_augV, kN_eq, kNil_eq, kCons_eq, kT_eq, rdE_eq, rdO_fz, rdO_ol, ownE_eq, owO_ol, go_binL, go_binL1, go_binL2, oSw_eq, go_binR, go_binR1, go_sPut, go_put1, go_putO, go_put2, go_putP, go_putN, go_retF1, go_fLst, go_fl1, go_sOwn, go_own1, go_call, go_call1, kFR_ok, kFR_exc, go_callIo, go_io0, go_io1, go_io2, kIo_ok, kIo_exc, go_callN, go_calln1, go_calln2, go_okF, go_excF, kRun_next, kRun_ret, kRun_exc, finF_none, finF_some, finS_ol, go_finO, go_finX, go_items, go_items_lst, go_items_tup, go_rng1, go_rng1_ok, go_rng2, go_rng2_ok, go_zip, go_zip_l, go_zip_t, go_enum, go_enum_l, go_sFor, go_for1, kLoop_next, kLoop_cont, kLoop_brk, kLoop_ret, kLoop_exc, turn_next, turn_cont, go_lc, go_lc1, kLc_ok, elem_ok, go_yes, go_sl, go_sl1, go_sl2, go_sl3, go_noP, go_p, go_p1, go_rev, go_rev1, go_chain, go_ch1, go_ch2, go_ch3T, go_ch3F, go_ch4, go_dic, go_dic1, go_prs_nil, go_prs, go_prs1, go_prs2, go_prs3, go_prs4, kW_ok, go_fcall, go_fcall1, kRunW_ok, go_okW, go_cf, go_cf1, oAdd_int, oAdd_bl, atI_0, atI_1, atI_2, atI_3, ixN_0, ixN_1, ixN_2, sz_lit, List.getElem?_cons_zero, List.getElem?_cons_succ, List.set_cons_zero, List.set_cons_succ, List.nil_append, List.cons_append, List.append_nil, List.length_cons, List.length_nil, Nat.reduceSub, Nat.reduceLeDiff, Nat.zero_add, Option.bind_some, Option.map_some, reduceCtorEq, Int.reduceLT, Int.reduceLE, Int.reduceNeg, Int.reducePow, Int.reduceToNat, and_true, true_and, and_self, ite_true, ite_false, if_true, if_false, Bool.not_true, Bool.not_false, Bool.true_and, Bool.false_and, Bool.and_true, Bool.and_false, Bool.true_or, Bool.false_or, oSub, oNeg, oLt, oLe, oGt, oGe, oIs, oIsNot, Vs.isNon, oTru, oBl, oIx, oLen, oAbs, oIntC, oMax2, oMin2, oTupC, oLstC, oSl, keyD, decide_true, decide_false, plainE, fzE, gIx, List.filterMap_cons, List.filterMap_nil, wipeE, restE, List.all_cons, List.all_nil, List.getD_eq_getElem?_getD, Option.getD_some, oMod_ok, oFdiv_ok, oPow_lit, oMul_lit, oRepr_bl, oEq_str, oNe_str, oEq_int, oNe_int, oEq_bl, oNe_bl, oEq_nil, oNe_nil, oIsi_int, oIsi_bool, oIsi_listed, str_beq, v_fits _ _ _ tL tN]
      rw [kLc_ok (filter_len hd)]
      simp only [k_ok, k_exc, kS_ok, kS_exc, kq_next, kq_ret, kq_brk, kq_cont, kq_exc, kq_retF, go_ok, go_exc, go_next, go_ret, go_brk, go_cont, go_excS, go_retF, go_some, go_v, getV_fz, go_c, go_bin, go_bin1, go_bin2, go_un, go_un1, go_tru, go_tru1, go_bl, go_bl1, go_and, go_andT, go_andF, go_or, go_orT, go_orF, go_not, go_not1, go_andV, go_orV, go_andV1, go_orV1, go_andVT, go_andVF, go_orVT, go_orVF, go_notV, go_notV1, go_notV2, go_if, go_ifT, go_ifF, go_nil, go_cons, go_cons1, go_cons2, go_chk, go_lst, go_tup, go_lst1, go_tup1, go_cal, go_cal1, go_isi, go_isi1, go_seq, go_sRet, go_ret1, go_sExpr, go_ex1, go_sIf, go_sifT, go_sifF, go_optS, go_sAsg, go_asg1, go_sSet, go_set1, go_sPar, go_par1, go_sAug, go_augV, kN_eq, kNil_eq, kCons_eq, kT_eq, rdE_eq, rdO_fz, rdO_ol, ownE_eq, owO_ol, go_binL, go_binL1, go_binL2, oSw_eq, go_binR, go_binR1, go_sPut, go_put1, go_putO, go_put2, go_putP, go_putN, go_retF1, go_fLst, go_fl1, go_sOwn, go_own1, go_call, go_call1, kFR_ok, kFR_exc, go_callIo, go_io0, go_io1, go_io2, kIo_ok, kIo_exc, go_callN, go_calln1, go_calln2, go_okF, go_excF, kRun_next, kRun_ret, kRun_exc, finF_none, finF_some, finS_ol, go_finO, go_finX, go_items, go_items_lst, go_items_tup, go_rng1, go_rng1_ok, go_rng2, go_rng2_ok, go_zip, go_zip_l, go_zip_t, go_enum, go_enum_l, go_sFor, go_for1, kLoop_next, kLoop_cont, kLoop_brk, kLoop_ret, kLoop_exc, turn_next, turn_cont, go_lc, go_lc1, kLc_ok, elem_ok, go_yes, go_sl, go_sl1, go_sl2, go_sl3, go_noP, go_p, go_p1, go_rev, go_rev1, go_chain, go_ch1, go_ch2, go_ch3T, go_ch3F, go_ch4, go_dic, go_dic1, go_prs_nil, go_prs, go_prs1, go_prs2, go_prs3, go_prs4, kW_ok, go_fcall, go_fcall1, kRunW_ok, go_okW, go_cf, go_cf1, oAdd_int, oAdd_bl, atI_0, atI_1, atI_2, atI_3, ixN_0, ixN_1, ixN_2, sz_lit, List.getElem?_cons_zero, List.getElem?_cons_succ, List.set_cons_zero, List.set_cons_succ, List.nil_append, List.cons_append, List.append_nil, List.length_cons, List.length_nil, Nat.reduceSub, Nat.reduceLeDiff, Nat.zero_add, Option.bind_some, Option.map_some, reduceCtorEq, Int.reduceLT, Int.reduceLE, Int.reduceNeg, Int.reducePow, Int.reduceToNat, and_true, true_and, and_self, ite_true, ite_false, if_true, if_false, Bool.not_true, Bool.not_false, Bool.true_and, Bool.false_and, Bool.and_true, Bool.and_false, Bool.true_or, Bool.false_or, oSub, oNeg, oLt, oLe, oGt, oGe, oIs, oIsNot, Vs.isNon, oTru, oBl, oIx, oLen, oAbs, oIntC, oMax2, oMin2, oTupC, oLstC, oSl, keyD, decide_true, decide_false, plainE, fzE, gIx, List.filterMap_cons, List.filterMap_nil, wipeE, restE, List.all_cons, List.all_nil, List.getD_eq_getElem?_getD, Option.getD_some, oMod_ok, oFdiv_ok, oPow_lit, oMul_lit, oRepr_bl, oEq_str, oNe_str, oEq_int, oNe_int, oEq_bl, oNe_bl, oEq_nil, oNe_nil, oIsi_int, oIsi_bool, oIsi_listed, str_beq, isEmpty_filter_not, l1__law_rows_right_3, r0 _ _ _ tL tN, rd, l1__law_rows_right_4]
      refine go_filterC (fun d => !wth d .non (.int u)) rfl (by simp) (fun d _ => ?_) ?_
      · simp only [k_ok, k_exc, kS_ok, kS_exc, kq_next, kq_ret, kq_brk, kq_cont, kq_exc, kq_retF, go_ok, go_exc, go_next, go_ret, go_brk, go_cont, go_excS, go_retF, go_some, go_v, getV_fz, go_c, go_bin, go_bin1, go_bin2, go_un, go_un1, go_tru, go_tru1, go_bl, go_bl1, go_and, go_andT, go_andF, go_or, go_orT, go_orF, go_not, go_not1, go_andV, go_orV, go_andV1, go_orV1, go_andVT, go_andVF, go_orVT, go_orVF, go_notV, go_notV1, go_notV2, go_if, go_ifT, go_ifF, go_nil, go_cons, go_cons1, go_cons2, go_chk, go_lst, go_tup, go_lst1, go_tup1, go_cal, go_cal1, go_isi, go_isi1, go_seq, go_sRet, go_ret1, go_sExpr, go_ex1, go_sIf, go_sifT, go_sifF, go_optS, go_sAsg, go_asg1, go_sSet, go_set1, go_sPar, go_par1, go_sAug, go_augV, kN_eq, kNil_eq, kCons_eq, kT_eq, rdE_eq, rdO_fz, rdO_ol, ownE_eq, owO_ol, go_binL, go_binL1, go_binL2, oSw_eq, go_binR, go_binR1, go_sPut, go_put1, go_putO, go_put2, go_putP, go_putN, go_retF1, go_fLst, go_fl1, go_sOwn, go_own1, go_call, go_call1, kFR_ok, kFR_exc, go_callIo, go_io0, go_io1, go_io2, kIo_ok, kIo_exc, go_callN, go_calln1, go_calln2, go_okF, go_excF, kRun_next, kRun_ret, kRun_exc, finF_none, finF_some, finS_ol, go_finO, go_finX, go_items, go_items_lst, go_items_tup, go_rng1, go_rng1_ok, go_rng2, go_rng2_ok, go_zip, go_zip_l, go_zip_t, go_enum, go_enum_l, go_sFor, go_for1, kLoop_next, kLoop_cont, kLoop_brk, kLoop_ret, kLoop_exc, turn_next, turn_cont, go_lc, go_lc1, kLc_ok, elem_ok, go_yes, go_sl, go_sl1, go_sl2, go_sl3, go_noP, go_p, go_p1, go_rev, go_rev1, go_chain, go_ch1, go_ch2, go_ch3T, go_ch3F, go_ch4, go_dic, go_dic1, go_prs_nil, go_prs, go_prs1, go_prs2, go_prs3, go_prs4, kW_ok, go_fcall, go_fcall1, kRunW_ok, go_okW, go_cf, go_cf1, oAdd_int, oAdd_bl, atI_0, atI_1, atI_2, atI_3, ixN_0, ixN_1, ixN_2, sz_lit, List.getElem?_cons_zero, List.getElem?_cons_succ, List.set_cons_zero, List.set_cons_succ, List.nil_append, List.cons_append, List.append_nil, List.length_cons, List.length_nil, Nat.reduceSub, Nat.reduceLeDiff, Nat.zero_add, Option.bind_some, Option.map_some, reduceCtorEq, Int.reduceLT, Int.reduceLE, Int.reduceNeg, Int.reducePow, Int.reduceToNat, and_true, true_and, and_self, ite_true, ite_false, if_true, if_false, Bool.not_true, Bool.not_false, Bool.true_and, Bool.false_and, Bool.and_true, Bool.and_false, Bool.true_or, Bool.false_or, oSub, oNeg, oLt, oLe, oGt, oGe, oIs, oIsNot, Vs.isNon, oTru, oBl, oIx, oLen, oAbs, oIntC, oMax2, oMin2, oTupC, oLstC, oSl, keyD, decide_true, decide_false, plainE, fzE, gIx, List.filterMap_cons, List.filterMap_nil, wipeE, restE, List.all_cons, List.all_nil, List.getD_eq_getElem?_getD, Option.getD_some, oMod_ok, oFdiv_ok, oPow_lit, oMul_lit, oRepr_bl, oEq_str, oNe_str, oEq_int, oNe_int, oEq_bl, oNe_bl, oEq_nil, oNe_nil, oIsi_int, oIsi_bool, oIsi_listed, str_beq, v_fits _ _ _ tN tU]
      rw [kLc_ok (filter_len hd)]
      have hw := all_wth xs (.int l) (.int u)
      simp only [k_ok, k_exc, kS_ok, kS_exc, kq_next, kq_ret, kq_brk, kq_cont, kq_exc, kq_retF, go_ok, go_exc, go_next, go_ret, go_brk, go_cont, go_excS, go_retF, go_some, go_v, getV_fz, go_c, go_bin, go_bin1, go_bin2, go_un, go_un1, go_tru, go_tru1, go_bl, go_bl1, go_and, go_andT, go_andF, go_or, go_orT, go_orF, go_not, go_not1, go_andV, go_orV, go_andV1, go_orV1, go_andVT, go_andVF, go_orVT, go_orVF, go_notV, go_notV1, go_notV2, go_if, go_ifT, go_ifF, go_nil, go_cons, go_cons1, go_cons2, go_chk, go_lst, go_tup, go_lst1, go_tup1, go_cal, go_cal1, go_isi, go_isi1, go_seq, go_sRet, go_ret1, go_sExpr, go_ex1, go_sIf, go_sifT, go_sifF, go_optS, go_sAsg, go_asg1, go_sSet, go_set1, go_sPar, go_par1, go_sAug, go_augV, kN_eq, kNil_eq, kCons_eq, kT_eq, rdE_eq, rdO_fz, rdO_ol, ownE_eq, owO_ol, go_binL, go_binL1, go_binL2, oSw_eq, go_binR, go_binR1, go_sPut, go_put1, go_putO, go_put2, go_putP, go_putN, go_retF1, go_fLst, go_fl1, go_sOwn, go_own1, go_call, go_call1, kFR_ok, kFR_exc, go_callIo, go_io0, go_io1, go_io2, kIo_ok, kIo_exc, go_callN, go_calln1, go_calln2, go_okF, go_excF, kRun_next, kRun_ret, kRun_exc, finF_none, finF_some, finS_ol, go_finO, go_finX, go_items, go_items_lst, go_items_tup, go_rng1, go_rng1_ok, go_rng2, go_rng2_ok, go_zip, go_zip_l, go_zip_t, go_enum, go_enum_l, go_sFor, go_for1, kLoop_next, kLoop_cont, kLoop_brk, kLoop_ret, kLoop_exc, turn_next, turn_cont, go_lc, go_lc1, kLc_ok, elem_ok, go_yes, go_sl, go_sl1, go_sl2, go_sl3, go_noP, go_p, go_p1, go_rev, go_rev1, go_chain, go_ch1, go_ch2, go_ch3T, go_ch3F, go_ch4, go_dic, go_dic1, go_prs_nil, go_prs, go_prs1, go_prs2, go_prs3, go_prs4, kW_ok, go_fcall, go_fcall1, kRunW_ok, go_okW, go_cf, go_cf1, oAdd_int, oAdd_bl, atI_0, atI_1, atI_2, atI_3, ixN_0, ixN_1, ixN_2, sz_lit, List.getElem?_cons_zero, List.getElem?_cons_succ, List.set_cons_zero, List.set_cons_succ, List.nil_append, List.cons_append, List.append_nil, List.length_cons, List.length_nil, Nat.reduceSub, Nat.reduceLeDiff, Nat.zero_add, Option.bind_some, Option.map_some, reduceCtorEq, Int.reduceLT, Int.reduceLE, Int.reduceNeg, Int.reducePow, Int.reduceToNat, and_true, true_and, and_self, ite_true, ite_false, if_true, if_false, Bool.not_true, Bool.not_false, Bool.true_and, Bool.false_and, Bool.and_true, Bool.and_false, Bool.true_or, Bool.false_or, oSub, oNeg, oLt, oLe, oGt, oGe, oIs, oIsNot, Vs.isNon, oTru, oBl, oIx, oLen, oAbs, oIntC, oMax2, oMin2, oTupC, oLstC, oSl, keyD, decide_true, decide_false, plainE, fzE, gIx, List.filterMap_cons, List.filterMap_nil, wipeE, restE, List.all_cons, List.all_nil, List.getD_eq_getElem?_getD, Option.getD_some, oMod_ok, oFdiv_ok, oPow_lit, oMul_lit, oRepr_bl, oEq_str, oNe_str, oEq_int, oNe_int, oEq_bl, oNe_bl, oEq_nil, oNe_nil, oIsi_int, oIsi_bool, oIsi_listed, str_beq, isEmpty_filter_not, l1__law_rows_right_5, r0 _ _ _ tN tU, r0 _ _ _ tL tU, rd, hw]
      cases xs.all (wth · (.int l) .non) with
      | false =>
        simp only [k_ok, k_exc, kS_ok, kS_exc, kq_next, kq_ret, kq_brk, kq_cont, kq_exc, kq_retF, go_ok, go_exc, go_next, go_ret, go_brk, go_cont, go_excS, go_retF, go_some, go_v, getV_fz, go_c, go_bin, go_bin1, go_bin2, go_un, go_un1, go_tru, go_tru1, go_bl, go_bl1, go_and, go_andT, go_andF, go_or, go_orT, go_orF, go_not, go_not1, go_andV, go_orV, go_andV1, go_orV1, go_andVT, go_andVF, go_orVT, go_orVF, go_notV, go_notV1, go_notV2, go_if, go_ifT, go_ifF, go_nil, go_cons, go_cons1, go_cons2, go_chk, go_lst, go_tup, go_lst1, go_tup1, go_cal, go_cal1, go_isi, go_isi1, go_seq, go_sRet, go_ret1, go_sExpr, go_ex1, go_sIf, go_sifT, go_sifF, go_optS, go_sAsg, go_asg1, go_sSet, go_set1, go_sPar, go_par1, go_sAug, go_augV, kN_eq, kNil_eq, kCons_eq, kT_eq, rdE_eq, rdO_fz, rdO_ol, ownE_eq, owO_ol, go_binL, go_binL1, go_binL2, oSw_eq, go_binR, go_binR1, go_sPut, go_put1, go_putO, go_put2, go_putP, go_putN, go_retF1, go_fLst, go_fl1, go_sOwn, go_own1, go_call, go_call1, kFR_ok, kFR_exc, go_callIo, go_io0, go_io1, go_io2, kIo_ok, kIo_exc, go_callN, go_calln1, go_calln2, go_okF, go_excF, kRun_next, kRun_ret, kRun_exc, finF_none, finF_some, finS_ol, go_finO, go_finX, go_items, go_items_lst, go_items_tup, go_rng1, go_rng1_ok, go_rng2, go_rng2_ok, go_zip, go_zip_l, go_zip_t, go_enum, go_enum_l, go_sFor, go_for1, kLoop_next, kLoop_cont, kLoop_brk, kLoop_ret, kLoop_exc, turn_next, turn_cont, go_lc, go_lc1, kLc_ok, elem_ok, go_yes, go_sl, go_sl1, go_sl2, go_sl3, go_noP, go_p, go_p1, go_rev, go_rev1, go_chain, go_ch1, go_ch2, go_ch3T, go_ch3F, go_ch4, go_dic, go_dic1, go_prs_nil, go_prs, go_prs1, go_prs2, go_prs3, go_prs4, kW_ok, go_fcall, go_fcall1, kRunW_ok, go_okW, go_cf, go_cf1, oAdd_int, oAdd_bl, atI_0, atI_1, atI_2, atI_3, ixN_0, ixN_1, ixN_2, sz_lit, List.getElem?_cons_zero, List.getElem?_cons_succ, List.set_cons_zero, List.set_cons_succ, List.nil_append, List.cons_append, List.append_nil, List.length_cons, List.length_nil, Nat.reduceSub, Nat.reduceLeDiff, Nat.zero_add, Option.bind_some, Option.map_some, reduceCtorEq, Int.reduceLT, Int.reduceLE, Int.reduceNeg, Int.reducePow, Int.reduceToNat, and_true, true_and, and_self, ite_true, ite_false, if_true, if_false, Bool.not_true, Bool.not_false, Bool.true_and, Bool.false_and, Bool.and_true, Bool.and_false, Bool.true_or, Bool.false_or, oSub, oNeg, oLt, oLe, oGt, oGe, oIs, oIsNot, Vs.isNon, oTru, oBl, oIx, oLen, oAbs, oIntC, oMax2, oMin2, oTupC, oLstC, oSl, keyD, decide_true, decide_false, plainE, fzE, gIx, List.filterMap_cons, List.filterMap_nil, wipeE, restE, List.all_cons, List.all_nil, List.getD_eq_getElem?_getD, Option.getD_some, oMod_ok, oFdiv_ok, oPow_lit, oMul_lit, oRepr_bl, oEq_str, oNe_str, oEq_int, oNe_int, oEq_bl, oNe_bl, oEq_nil, oNe_nil, oIsi_int, oIsi_bool, oIsi_listed, str_beq, turn_next]
        exact ⟨_, _, _, _, rfl⟩
      | true =>
        simp only [k_ok, k_exc, kS_ok, kS_exc, kq_next, kq_ret, kq_brk, kq_cont, kq_exc, kq_retF, go_ok, go_exc, go_next, go_ret, go_brk, go_cont, go_excS, go_retF, go_some, go_v, getV_fz, go_c, go_bin, go_bin1, go_bin2, go_un, go_un1, go_tru, go_tru1, go_bl, go_bl1, go_and, go_andT, go_andF, go_or, go_orT, go_orF, go_not, go_not1, go_andV, go_orV, go_andV1, go_orV1, go_andVT, go_andVF, go_orVT, go_orVF, go_notV, go_notV1, go_notV2, go_if, go_ifT, go_ifF, go_nil, go_cons, go_cons1, go_cons2, go_chk, go_lst, go_tup, go_lst1, go_tup1, go_cal, go_cal1, go_isi, go_isi1, go_seq, go_sRet, go_ret1, go_sExpr, go_ex1, go_sIf, go_sifT, go_sifF, go_optS, go_sAsg, go_asg1, go_sSet, go_set1, go_sPar, go_par1, go_sAug, go_augV, kN_eq, kNil_eq, kCons_eq, kT_eq, rdE_eq, rdO_fz, rdO_ol, ownE_eq, owO_ol, go_binL, go_binL1, go_binL2, oSw_eq, go_binR, go_binR1, go_sPut, go_put1, go_putO, go_put2, go_putP, go_putN, go_retF1, go_fLst, go_fl1, go_sOwn, go_own1, go_call, go_call1, kFR_ok, kFR_exc, go_callIo, go_io0, go_io1, go_io2, kIo_ok, kIo_exc, go_callN, go_calln1, go_calln2, go_okF, go_excF, kRun_next, kRun_ret, kRun_exc, finF_none, finF_some, finS_ol, go_finO, go_finX, go_items, go_items_lst, go_items_tup, go_rng1, go_rng1_ok, go_rng2, go_rng2_ok, go_zip, go_zip_l, go_zip_t, go_enum, go_enum_l, go_sFor, go_for1, kLoop_next, kLoop_cont, kLoop_brk, kLoop_ret, kLoop_exc, turn_next, turn_cont, go_lc, go_lc1, kLc_ok, elem_ok, go_yes, go_sl, go_sl1, go_sl2, go_sl3, go_noP, go_p, go_p1, go_rev, go_rev1, go_chain, go_ch1, go_ch2, go_ch3T, go_ch3F, go_ch4, go_dic, go_dic1, go_prs_nil, go_prs, go_prs1, go_prs2, go_prs3, go_prs4, kW_ok, go_fcall, go_fcall1, kRunW_ok, go_okW, go_cf, go_cf1, oAdd_int, oAdd_bl, atI_0, atI_1, atI_2, atI_3, ixN_0, ixN_1, ixN_2, sz_lit, List.getElem?_cons_zero, List.getElem?_cons_succ, List.set_cons_zero, List.set_cons_succ, List.nil_append, List.cons_append, List.append_nil, List.length_cons, List.length_nil, Nat.reduceSub, Nat.reduceLeDiff, Nat.zero_add, Option.bind_some, Option.map_some, reduceCtorEq, Int.reduceLT, Int.reduceLE, Int.reduceNeg, Int.reducePow, Int.reduceToNat, and_true, true_and, and_self, ite_true, ite_false, if_true, if_false, Bool.not_true, Bool.not_false, Bool.true_and, Bool.false_and, Bool.and_true, Bool.and_false, Bool.true_or, Bool.false_or, oSub, oNeg, oLt, oLe, oGt, oGe, oIs, oIsNot, Vs.isNon, oTru, oBl, oIx, oLen, oAbs, oIntC, oMax2, oMin2, oTupC, oLstC, oSl, keyD, decide_true, decide_false, plainE, fzE, gIx, List.filterMap_cons, List.filterMap_nil, wipeE, restE, List.all_cons, List.all_nil, List.getD_eq_getElem?_getD, Option.getD_some, oMod_ok, oFdiv_ok, oPow_lit, oMul_lit, oRepr_bl, oEq_str, oNe_str, oEq_int, oNe_int, oEq_bl, oNe_bl, oEq_nil, oNe_nil, oIsi_int, oIsi_bool, oIsi_listed, str_beq, turn_next]
        exact ⟨_, _, _, _, rfl⟩
  · have rd : ∀ lo hi, rowD (.tup xs) c lo hi = false := fun lo hi => by simp [rowD, hk]
    simp only [k_ok, k_exc, kS_ok, kS_exc, kq_next, kq_ret, kq_brk, kq_cont, kq_exc, kq_retF, go_ok, go_exc, go_next, go_ret, go_brk, go_cont, go_excS, go_retF, go_some, go_v, getV_fz, go_c, go_bin, go_bin1, go_bin2, go_un, go_un1, go_tru, go_tru1, go_bl, go_bl1, go_and, go_andT, go_andF, go_or, go_orT, go_orF, go_not, go_not1, go_andV, go_orV, go_andV1, go_orV1, go_andVT, go_andVF, go_orVT, go_orVF, go_notV, go_notV1, go_notV2, go_if, go_ifT, go_ifF, go_nil, go_cons, go_cons1, go_cons2, go_chk, go_lst, go_tup, go_lst1, go_tup1, go_cal, go_cal1, go_isi, go_isi1, go_seq, go_sRet, go_ret1, go_sExpr, go_ex1, go_sIf, go_sifT, go_sifF, go_optS, go_sAsg, go_asg1, go_sSet, go_set1, go_sPar, go_par1, go_sAug, go_augV, kN_eq, kNil_eq, kCons_eq, kT_eq, rdE_eq, rdO_fz, rdO_ol, ownE_eq, owO_ol, go_binL, go_binL1, go_binL2, oSw_eq, go_binR, go_binR1, go_sPut, go_put1, go_putO, go_put2, go_putP, go_putN, go_retF1, go_fLst, go_fl1, go_sOwn, go_own1, go_call, go_call1, kFR_ok, kFR_exc, go_callIo, go_io0, go_io1, go_io2, kIo_ok, kIo_exc, go_callN, go_calln1, go_calln2, go_okF, go_excF, kRun_next, kRun_ret, kRun_exc, finF_none, finF_some, finS_ol, go_finO, go_finX, go_items, go_items_lst, go_items_tup, go_rng1, go_rng1_ok, go_rng2, go_rng2_ok, go_zip, go_zip_l, go_zip_t, go_enum, go_enum_l, go_sFor, go_for1, kLoop_next, kLoop_cont, kLoop_brk, kLoop_ret, kLoop_exc, turn_next, turn_cont, go_lc, go_lc1, kLc_ok, elem_ok, go_yes, go_sl, go_sl1, go_sl2, go_sl3, go_noP, go_p, go_p1, go_rev, go_rev1, go_chain, go_ch1, go_ch2, go_ch3T, go_ch3F, go_ch4, go_dic, go_dic1, go_prs_nil, go_prs, go_prs1, go_prs2, go_prs3, go_prs4, kW_ok, go_fcall, go_fcall1, kRunW_ok, go_okW, go_cf, go_cf1, oAdd_int, oAdd_bl, atI_0, atI_1, atI_2, atI_3, ixN_0, ixN_1, ixN_2, sz_lit, List.getElem?_cons_zero, List.getElem?_cons_succ, List.set_cons_zero, List.set_cons_succ, List.nil_append, List.cons_append, List.append_nil, List.length_cons, List.length_nil, Nat.reduceSub, Nat.reduceLeDiff, Nat.zero_add, Option.bind_some, Option.map_some, reduceCtorEq, Int.reduceLT, Int.reduceLE, Int.reduceNeg, Int.reducePow, Int.reduceToNat, and_true, true_and, and_self, ite_true, ite_false, if_true, if_false, Bool.not_true, Bool.not_false, Bool.true_and, Bool.false_and, Bool.and_true, Bool.and_false, Bool.true_or, Bool.false_or, oSub, oNeg, oLt, oLe, oGt, oGe, oIs, oIsNot, Vs.isNon, oTru, oBl, oIx, oLen, oAbs, oIntC, oMax2, oMin2, oTupC, oLstC, oSl, keyD, decide_true, decide_false, plainE, fzE, gIx, List.filterMap_cons, List.filterMap_nil, wipeE, restE, List.all_cons, List.all_nil, List.getD_eq_getElem?_getD, Option.getD_some, oMod_ok, oFdiv_ok, oPow_lit, oMul_lit, oRepr_bl, oEq_str, oNe_str, oEq_int, oNe_int, oEq_bl, oNe_bl, oEq_nil, oNe_nil, oIsi_int, oIsi_bool, oIsi_listed, str_beq, decide_eq_false hk, l1__law_rows_right_1, l1__law_rows_right_2, l1__law_rows_right_3, l1__law_rows_right_4, l1__law_rows_right_5, r0 _ _ _ tN tN, r0 _ _ _ tL tN, r0 _ _ _ tN tU, r0 _ _ _ tL tU, rd, turn_next]
    exact ⟨_, _, _, _, rfl⟩
theorem turn_row (W : List D) (m l u c : Int) (x : D) (a b d : Option T) (hf : Fine x) :
    Go (Turn (rowI W m l u x)) (l1__law_rows_right [some (.ol (some 0) W), some (.fz (.int m)), some (.fz (.int l)), some (.fz (.int u)), some (.fz x), some (.fz (.bl (isL x))), some (.fz (.int c)), a, b, d, none]) := by
  have tL : Lim (.int l) := trivial
  have tU : Lim (.int u) := trivial
  have tN : Lim .non := trivial
  have r0 := fun k lo hi h1 h2 => v_is_row x k lo hi h1 h2 hf
  unfold l1__law_rows_right
  cases x with
  | lst xs => exact turn_lst W m l u c xs a b d hf
  | tup xs => exact turn_tup W m l u c xs a b d hf
  | scr ns => exact hf.elim
  | _ =>
    simp only [isL, rowD] at r0 ⊢
    simp only [k_ok, k_exc, kS_ok, kS_exc, kq_next, kq_ret, kq_brk, kq_cont, kq_exc, kq_retF, go_ok, go_exc, go_next, go_ret, go_brk, go_cont, go_excS, go_retF, go_some, go_v, getV_fz, go_c, go_bin, go_bin1, go_bin2, go_un, go_un1, go_tru, go_tru1, go_bl, go_bl1, go_and, go_andT, go_andF, go_or, go_orT, go_orF, go_not, go_not1, go_andV, go_orV, go_andV1, go_orV1, go_andVT, go_andVF, go_orVT, go_orVF, go_notV, go_notV1, go_notV2, go_if, go_ifT, go_ifF, go_nil, go_cons, go_cons1, go_cons2, go_chk, go_lst, go_tup, go_lst1, go_tup1, go_cal, go_cal1, go_isi, go_isi1, go_seq, go_sRet, go_ret1, go_sExpr, go_ex1, go_sIf, go_sifT, go_sifF, go_optS, go_sAsg, go_asg1, go_sSet, go_set1, go_sPar, go_par1, go_sAug, go_augV, kN_eq, kNil_eq, kCons_eq, kT_eq, rdE_eq, rdO_fz, rdO_ol, ownE_eq, owO_ol, go_binL, go_binL1, go_binL2, oSw_eq, go_binR, go_binR1, go_sPut, go_put1, go_putO, go_put2, go_putP, go_putN, go_retF1, go_fLst, go_fl1, go_sOwn, go_own1, go_call, go_call1, kFR_ok, kFR_exc, go_callIo, go_io0, go_io1, go_io2, kIo_ok, kIo_exc, go_callN, go_calln1, go_calln2, go_okF, go_excF, kRun_next, kRun_ret, kRun_exc, finF_none, finF_some, finS_ol, go_finO, go_finX, go_items, go_items_lst, go_items_tup, go_rng1, go_rng1_ok, go_rng2, go_rng2_ok, go_zip, go_zip_l, go_zip_t, go_enum, go_enum_l, go_sFor, go_for1, kLoop_next, kLoop_cont, kLoop_brk, kLoop_ret, kLoop_exc, turn_next, turn_cont, go_lc, go_lc1, kLc_ok, elem_ok, go_yes, go_sl, go_sl1, go_sl2, go_sl3, go_noP, go_p, go_p1, go_rev, go_rev1, go_chain, go_ch1, go_ch2, go_ch3T, go_ch3F, go_ch4, go_dic, go_dic1, go_prs_nil, go_prs, go_prs1, go_prs2, go_prs3, go_prs4, kW_ok, go_fcall, go_fcall1, kRunW_ok, go_okW, go_cf, go_cf1, oAdd_int, oAdd_bl, atI_0, atI_1, atI_2, atI_3, ixN_0, ixN_1, ixN_2, sz_lit, List.getElem?_cons_zero, List.getElem?_cons_succ, List.set_cons_zero, List.set_cons_succ, List.nil_append, List.cons_append, List.append_nil, List.length_cons, List.length_nil, Nat.reduceSub, Nat.reduceLeDiff, Nat.zero_add, Option.bind_some, Option.map_some, reduceCtorEq, Int.reduceLT, Int.reduceLE, Int.reduceNeg, Int.reducePow, Int.reduceToNat, and_true, true_and, and_self, ite_true, ite_false, if_true, if_false, Bool.not_true, Bool.not_false, Bool.true_and, Bool.false_and, Bool.and_true, Bool.and_false, Bool.true_or, Bool.false_or, oSub, oNeg, oLt, oLe, oGt, oGe, oIs, oIsNot, Vs.isNon, oTru, oBl, oIx, oLen, oAbs, oIntC, oMax2, oMin2, oTupC, oLstC, oSl, keyD, decide_true, decide_false, plainE, fzE, gIx, List.filterMap_cons, List.filterMap_nil, wipeE, restE, List.all_cons, List.all_nil, List.getD_eq_getElem?_getD, Option.getD_some, oMod_ok, oFdiv_ok, oPow_lit, oMul_lit, oRepr_bl, oEq_str, oNe_str, oEq_int, oNe_int, oEq_bl, oNe_bl, oEq_nil, oNe_nil, oIsi_int, oIsi_bool, oIsi_listed, str_beq, l1__law_rows_right_1, l1__law_rows_right_2, l1__law_rows_right_3, l1__law_rows_right_4, l1__law_rows_right_5, r0 _ _ _ tN tN, r0 _ _ _ tL tN, r0 _ _ _ tN tU, r0 _ _ _ tL tU, turn_next]
    exact ⟨_, _, _, _, rfl⟩
theorem rows_go {K : FR → Prop} {n : Nat} {W : List D} (h : Wl n W) (hn : n < 2 ^ 19) (hK : ∀ W', Wl (n + 20) W' → K (.ok (.bl true) (some W'))) : Go K (F__law_rows_right (some W) []) := by
  rw [run__law_rows_right]; unfold b__law_rows_right
  simp only [k_ok, k_exc, kS_ok, kS_exc, kq_next, kq_ret, kq_brk, kq_cont, kq_exc, kq_retF, go_ok, go_exc, go_next, go_ret, go_brk, go_cont, go_excS, go_retF, go_some, go_v, getV_fz, go_c, go_bin, go_bin1, go_bin2, go_un, go_un1, go_tru, go_tru1, go_bl, go_bl1, go_and, go_andT, go_andF, go_or, go_orT, go_orF, go_not, go_not1, go_andV, go_orV, go_andV1, go_orV1, go_andVT, go_andVF, go_orVT, go_orVF, go_notV, go_notV1, go_notV2, go_if, go_ifT, go_ifF, go_nil, go_cons, go_cons1, go_cons2, go_chk, go_lst, go_tup, go_lst1, go_tup1, go_cal, go_cal1, go_isi, go_isi1, go_seq, go_sRet, go_ret1, go_sExpr, go_ex1, go_sIf, go_sifT, go_sifF, go_optS, go_sAsg, go_asg1, go_sSet, go_set1, go_sPar, go_par1, go_sAug, go_augV, kN_eq, kNil_eq, kCons_eq, kT_eq, rdE_eq, rdO_fz, rdO_ol, ownE_eq, owO_ol, go_binL, go_binL1, go_binL2, oSw_eq, go_binR, go_binR1, go_sPut, go_put1, go_putO, go_put2, go_putP, go_putN, go_retF1, go_fLst, go_fl1, go_sOwn, go_own1, go_call, go_call1, kFR_ok, kFR_exc, go_callIo, go_io0, go_io1, go_io2, kIo_ok, kIo_exc, go_callN, go_calln1, go_calln2, go_okF, go_excF, kRun_next, kRun_ret, kRun_exc, finF_none, finF_some, finS_ol, go_finO, go_finX, go_items, go_items_lst, go_items_tup, go_rng1, go_rng1_ok, go_rng2, go_rng2_ok, go_zip, go_zip_l, go_zip_t, go_enum, go_enum_l, go_sFor, go_for1, kLoop_next, kLoop_cont, kLoop_brk, kLoop_ret, kLoop_exc, turn_next, turn_cont, go_lc, go_lc1, kLc_ok, elem_ok, go_yes, go_sl, go_sl1, go_sl2, go_sl3, go_noP, go_p, go_p1, go_rev, go_rev1, go_chain, go_ch1, go_ch2, go_ch3T, go_ch3F, go_ch4, go_dic, go_dic1, go_prs_nil, go_prs, go_prs1, go_prs2, go_prs3, go_prs4, kW_ok, go_fcall, go_fcall1, kRunW_ok, go_okW, go_cf, go_cf1, oAdd_int, oAdd_bl, atI_0, atI_1, atI_2, atI_3, ixN_0, ixN_1, ixN_2, sz_lit, List.getElem?_cons_zero, List.getElem?_cons_succ, List.set_cons_zero, List.set_cons_succ, List.nil_append, List.cons_append, List.append_nil, List.length_cons, List.length_nil, Nat.reduceSub, Nat.reduceLeDiff, Nat.zero_add, Option.bind_some, Option.map_some, reduceCtorEq, Int.reduceLT, Int.reduceLE, Int.reduceNeg, Int.reducePow, Int.reduceToNat, and_true, true_and, and_self, ite_true, ite_false, if_true, if_false, Bool.not_true, Bool.not_false, Bool.true_and, Bool.false_and, Bool.and_true, Bool.and_false, Bool.true_or, Bool.false_or, oSub, oNeg, oLt, oLe, oGt, oGe, oIs, oIsNot, Vs.isNon, oTru, oBl, oIx, oLen, oAbs, oIntC, oMax2, oMin2, oTupC, oLstC, oSl, keyD, decide_true, decide_false, plainE, fzE, gIx, List.filterMap_cons, List.filterMap_nil, wipeE, restE, List.all_cons, List.all_nil, List.getD_eq_getElem?_getD, Option.getD_some, oMod_ok, oFdiv_ok, oPow_lit, oMul_lit, oRepr_bl, oEq_str, oNe_str, oEq_int, oNe_int, oEq_bl, oNe_bl, oEq_nil, oNe_nil, oIsi_int, oIsi_bool, oIsi_listed, str_beq]
  refine draws _ n W _ h (by omega) (by omega) (by omega) fun W1 m h1 hm0 hm1 => ?_
  simp only [k_ok, k_exc, kS_ok, kS_exc, kq_next, kq_ret, kq_brk, kq_cont, kq_exc, kq_retF, go_ok, go_exc, go_next, go_ret, go_brk, go_cont, go_excS, go_retF, go_some, go_v, getV_fz, go_c, go_bin, go_bin1, go_bin2, go_un, go_un1, go_tru, go_tru1, go_bl, go_bl1, go_and, go_andT, go_andF, go_or, go_orT, go_orF, go_not, go_not1, go_andV, go_orV, go_andV1, go_orV1, go_andVT, go_andVF, go_orVT, go_orVF, go_notV, go_notV1, go_notV2, go_if, go_ifT, go_ifF, go_nil, go_cons, go_cons1, go_cons2, go_chk, go_lst, go_tup, go_lst1, go_tup1, go_cal, go_cal1, go_isi, go_isi1, go_seq, go_sRet, go_ret1, go_sExpr, go_ex1, go_sIf, go_sifT, go_sifF, go_optS, go_sAsg, go_asg1, go_sSet, go_set1, go_sPar, go_par1, go_sAug, go_augV, kN_eq, kNil_eq, kCons_eq, kT_eq, rdE_eq, rdO_fz, rdO_ol, ownE_eq, owO_ol, go_binL, go_binL1, go_binL2, oSw_eq, go_binR, go_binR1, go_sPut, go_put1, go_putO, go_put2, go_putP, go_putN, go_retF1, go_fLst, go_fl1, go_sOwn, go_own1, go_call, go_call1, kFR_ok, kFR_exc, go_callIo, go_io0, go_io1, go_io2, kIo_ok, kIo_exc, go_callN, go_calln1, go_calln2, go_okF, go_excF, kRun_next, kRun_ret, kRun_exc, finF_none, finF_some, finS_ol, go_finO, go_finX, go_items, go_items_lst, go_items_tup, go_rng1, go_rng1_ok, go_rng2, go_rng2_ok, go_zip, go_zip_l, go_zip_t, go_enum, go_enum_l, go_sFor, go_for1, kLoop_next, kLoop_cont, kLoop_brk, kLoop_ret, kLoop_exc, turn_next, turn_cont, go_lc, go_lc1, kLc_ok, elem_ok, go_yes, go_sl, go_sl1, go_sl2, go_sl3, go_noP, go_p, go_p1, go_rev, go_rev1, go_chain, go_ch1, go_ch2, go_ch3T, go_ch3F, go_ch4, go_dic, go_dic1, go_prs_nil, go_prs, go_prs1, go_prs2, go_prs3, go_prs4, kW_ok, go_fcall, go_fcall1, kRunW_ok, go_okW, go_cf, go_cf1, oAdd_int, oAdd_bl, atI_0, atI_1, atI_2, atI_3, ixN_0, ixN_1, ixN_2, sz_lit, List.getElem?_cons_zero, List.getElem?_cons_succ, List.set_cons_zero, List.set_cons_succ, List.nil_append, List.cons_append, List.append_nil, List.length_cons, List.length_nil, Nat.reduceSub, Nat.reduceLeDiff, Nat.zero_add, Option.bind_some, Option.map_some, reduceCtorEq, Int.reduceLT, Int.reduceLE, Int.reduceNeg, Int.reducePow, Int.reduceToNat, and_true, true_and, and_self, ite_true, ite_false, if_true, if_false, Bool.not_true, Bool.not_false, Bool.true_and, Bool.false_and, Bool.and_true, Bool.and_false, Bool.true_or, Bool.false_or, oSub, oNeg, oLt, oLe, oGt, oGe, oIs, oIsNot, Vs.isNon, oTru, oBl, oIx, oLen, oAbs, oIntC, oMax2, oMin2, oTupC, oLstC, oSl, keyD, decide_true, decide_false, plainE, fzE, gIx, List.filterMap_cons, List.filterMap_nil, wipeE, restE, List.all_cons, List.all_nil, List.getD_eq_getElem?_getD, Option.getD_some, oMod_ok, oFdiv_ok, oPow_lit, oMul_lit, oRepr_bl, oEq_str, oNe_str, oEq_int, oNe_int, oEq_bl, oNe_bl, oEq_nil, oNe_nil, oIsi_int, oIsi_bool, oIsi_listed, str_beq]
  refine picks _ _ W1 _ _ (.inl rfl) h1 (by omega) (by simp) (by simp) fun W2 x h2 hx => ?_
  obtain ⟨low, rfl⟩ : ∃ l, x = D.int l := by
    simp only [List.mem_cons, List.not_mem_nil, or_false] at hx
    rcases hx with rfl | rfl | rfl <;> exact ⟨_, rfl⟩
  simp only [k_ok, k_exc, kS_ok, kS_exc, kq_next, kq_ret, kq_brk, kq_cont, kq_exc, kq_retF, go_ok, go_exc, go_next, go_ret, go_brk, go_cont, go_excS, go_retF, go_some, go_v, getV_fz, go_c, go_bin, go_bin1, go_bin2, go_un, go_un1, go_tru, go_tru1, go_bl, go_bl1, go_and, go_andT, go_andF, go_or, go_orT, go_orF, go_not, go_not1, go_andV, go_orV, go_andV1, go_orV1, go_andVT, go_andVF, go_orVT, go_orVF, go_notV, go_notV1, go_notV2, go_if, go_ifT, go_ifF, go_nil, go_cons, go_cons1, go_cons2, go_chk, go_lst, go_tup, go_lst1, go_tup1, go_cal, go_cal1, go_isi, go_isi1, go_seq, go_sRet, go_ret1, go_sExpr, go_ex1, go_sIf, go_sifT, go_sifF, go_optS, go_sAsg, go_asg1, go_sSet, go_set1, go_sPar, go_par1, go_sAug, go_augV, kN_eq, kNil_eq, kCons_eq, kT_eq, rdE_eq, rdO_fz, rdO_ol, ownE_eq, owO_ol, go_binL, go_binL1, go_binL2, oSw_eq, go_binR, go_binR1, go_sPut, go_put1, go_putO, go_put2, go_putP, go_putN, go_retF1, go_fLst, go_fl1, go_sOwn, go_own1, go_call, go_call1, kFR_ok, kFR_exc, go_callIo, go_io0, go_io1, go_io2, kIo_ok, kIo_exc, go_callN, go_calln1, go_calln2, go_okF, go_excF, kRun_next, kRun_ret, kRun_exc, finF_none, finF_some, finS_ol, go_finO, go_finX, go_items, go_items_lst, go_items_tup, go_rng1, go_rng1_ok, go_rng2, go_rng2_ok, go_zip, go_zip_l, go_zip_t, go_enum, go_enum_l, go_sFor, go_for1, kLoop_next, kLoop_cont, kLoop_brk, kLoop_ret, kLoop_exc, turn_next, turn_cont, go_lc, go_lc1, kLc_ok, elem_ok, go_yes, go_sl, go_sl1, go_sl2, go_sl3, go_noP, go_p, go_p1, go_rev, go_rev1, go_chain, go_ch1, go_ch2, go_ch3T, go_ch3F, go_ch4, go_dic, go_dic1, go_prs_nil, go_prs, go_prs1, go_prs2, go_prs3, go_prs4, kW_ok, go_fcall, go_fcall1, kRunW_ok, go_okW, go_cf, go_cf1, oAdd_int, oAdd_bl, atI_0, atI_1, atI_2, atI_3, ixN_0, ixN_1, ixN_2, sz_lit, List.getElem?_cons_zero, List.getElem?_cons_succ, List.set_cons_zero, List.set_cons_succ, List.nil_append, List.cons_append, List.append_nil, List.length_cons, List.length_nil, Nat.reduceSub, Nat.reduceLeDiff, Nat.zero_add, Option.bind_some, Option.map_some, reduceCtorEq, Int.reduceLT, Int.reduceLE, Int.reduceNeg, Int.reducePow, Int.reduceToNat, and_true, true_and, and_self, ite_true, ite_false, if_true, if_false, Bool.not_true, Bool.not_false, Bool.true_and, Bool.false_and, Bool.and_true, Bool.and_false, Bool.true_or, Bool.false_or, oSub, oNeg, oLt, oLe, oGt, oGe, oIs, oIsNot, Vs.isNon, oTru, oBl, oIx, oLen, oAbs, oIntC, oMax2, oMin2, oTupC, oLstC, oSl, keyD, decide_true, decide_false, plainE, fzE, gIx, List.filterMap_cons, List.filterMap_nil, wipeE, restE, List.all_cons, List.all_nil, List.getD_eq_getElem?_getD, Option.getD_some, oMod_ok, oFdiv_ok, oPow_lit, oMul_lit, oRepr_bl, oEq_str, oNe_str, oEq_int, oNe_int, oEq_bl, oNe_bl, oEq_nil, oNe_nil, oIsi_int, oIsi_bool, oIsi_listed, str_beq, b__law_rows_right_1]
  refine draws _ _ W2 _ h2 (by omega) (by omega) (by omega) fun W3 u h3 hu0 hu1 => ?_
  simp only [k_ok, k_exc, kS_ok, kS_exc, kq_next, kq_ret, kq_brk, kq_cont, kq_exc, kq_retF, go_ok, go_exc, go_next, go_ret, go_brk, go_cont, go_excS, go_retF, go_some, go_v, getV_fz, go_c, go_bin, go_bin1, go_bin2, go_un, go_un1, go_tru, go_tru1, go_bl, go_bl1, go_and, go_andT, go_andF, go_or, go_orT, go_orF, go_not, go_not1, go_andV, go_orV, go_andV1, go_orV1, go_andVT, go_andVF, go_orVT, go_orVF, go_notV, go_notV1, go_notV2, go_if, go_ifT, go_ifF, go_nil, go_cons, go_cons1, go_cons2, go_chk, go_lst, go_tup, go_lst1, go_tup1, go_cal, go_cal1, go_isi, go_isi1, go_seq, go_sRet, go_ret1, go_sExpr, go_ex1, go_sIf, go_sifT, go_sifF, go_optS, go_sAsg, go_asg1, go_sSet, go_set1, go_sPar, go_par1, go_sAug, go_augV, kN_eq, kNil_eq, kCons_eq, kT_eq, rdE_eq, rdO_fz, rdO_ol, ownE_eq, owO_ol, go_binL, go_binL1, go_binL2, oSw_eq, go_binR, go_binR1, go_sPut, go_put1, go_putO, go_put2, go_putP, go_putN, go_retF1, go_fLst, go_fl1, go_sOwn, go_own1, go_call, go_call1, kFR_ok, kFR_exc, go_callIo, go_io0, go_io1, go_io2, kIo_ok, kIo_exc, go_callN, go_calln1, go_calln2, go_okF, go_excF, kRun_next, kRun_ret, kRun_exc, finF_none, finF_some, finS_ol, go_finO, go_finX, go_items, go_items_lst, go_items_tup, go_rng1, go_rng1_ok, go_rng2, go_rng2_ok, go_zip, go_zip_l, go_zip_t, go_enum, go_enum_l, go_sFor, go_for1, kLoop_next, kLoop_cont, kLoop_brk, kLoop_ret, kLoop_exc, turn_next, turn_cont, go_lc, go_lc1, kLc_ok, elem_ok, go_yes, go_sl, go_sl1, go_sl2, go_sl3, go_noP, go_p, go_p1, go_rev, go_rev1, go_chain, go_ch1, go_ch2, go_ch3T, go_ch3F, go_ch4, go_dic, go_dic1, go_prs_nil, go_prs, go_prs1, go_prs2, go_prs3, go_prs4, kW_ok, go_fcall, go_fcall1, kRunW_ok, go_okW, go_cf, go_cf1, oAdd_int, oAdd_bl, atI_0, atI_1, atI_2, atI_3, ixN_0, ixN_1, ixN_2, sz_lit, List.getElem?_cons_zero, List.getElem?_cons_succ, List.set_cons_zero, List.set_cons_succ, List.nil_append, List.cons_append, List.append_nil, List.length_cons, List.length_nil, Nat.reduceSub, Nat.reduceLeDiff, Nat.zero_add, Option.bind_some, Option.map_some, reduceCtorEq, Int.reduceLT, Int.reduceLE, Int.reduceNeg, Int.reducePow, Int.reduceToNat, and_true, true_and, and_self, ite_true, ite_false, if_true, if_false, Bool.not_true, Bool.not_false, Bool.true_and, Bool.false_and, Bool.and_true, Bool.and_false, Bool.true_or, Bool.false_or, oSub, oNeg, oLt, oLe, oGt, oGe, oIs, oIsNot, Vs.isNon, oTru, oBl, oIx, oLen, oAbs, oIntC, oMax2, oMin2, oTupC, oLstC, oSl, keyD, decide_true, decide_false, plainE, fzE, gIx, List.filterMap_cons, List.filterMap_nil, wipeE, restE, List.all_cons, List.all_nil, List.getD_eq_getElem?_getD, Option.getD_some, oMod_ok, oFdiv_ok, oPow_lit, oMul_lit, oRepr_bl, oEq_str, oNe_str, oEq_int, oNe_int, oEq_bl, oNe_bl, oEq_nil, oNe_nil, oIsi_int, oIsi_bool, oIsi_listed, str_beq, b__law_rows_right_2]
  refine row_go h3 (by omega) hm0 (by omega) (by omega) fun W4 x h4 hx => ?_
  simp only [k_ok, k_exc, kS_ok, kS_exc, kq_next, kq_ret, kq_brk, kq_cont, kq_exc, kq_retF, go_ok, go_exc, go_next, go_ret, go_brk, go_cont, go_excS, go_retF, go_some, go_v, getV_fz, go_c, go_bin, go_bin1, go_bin2, go_un, go_un1, go_tru, go_tru1, go_bl, go_bl1, go_and, go_andT, go_andF, go_or, go_orT, go_orF, go_not, go_not1, go_andV, go_orV, go_andV1, go_orV1, go_andVT, go_andVF, go_orVT, go_orVF, go_notV, go_notV1, go_notV2, go_if, go_ifT, go_ifF, go_nil, go_cons, go_cons1, go_cons2, go_chk, go_lst, go_tup, go_lst1, go_tup1, go_cal, go_cal1, go_isi, go_isi1, go_seq, go_sRet, go_ret1, go_sExpr, go_ex1, go_sIf, go_sifT, go_sifF, go_optS, go_sAsg, go_asg1, go_sSet, go_set1, go_sPar, go_par1, go_sAug, go_augV, kN_eq, kNil_eq, kCons_eq, kT_eq, rdE_eq, rdO_fz, rdO_ol, ownE_eq, owO_ol, go_binL, go_binL1, go_binL2, oSw_eq, go_binR, go_binR1, go_sPut, go_put1, go_putO, go_put2, go_putP, go_putN, go_retF1, go_fLst, go_fl1, go_sOwn, go_own1, go_call, go_call1, kFR_ok, kFR_exc, go_callIo, go_io0, go_io1, go_io2, kIo_ok, kIo_exc, go_callN, go_calln1, go_calln2, go_okF, go_excF, kRun_next, kRun_ret, kRun_exc, finF_none, finF_some, finS_ol, go_finO, go_finX, go_items, go_items_lst, go_items_tup, go_rng1, go_rng1_ok, go_rng2, go_rng2_ok, go_zip, go_zip_l, go_zip_t, go_enum, go_enum_l, go_sFor, go_for1, kLoop_next, kLoop_cont, kLoop_brk, kLoop_ret, kLoop_exc, turn_next, turn_cont, go_lc, go_lc1, kLc_ok, elem_ok, go_yes, go_sl, go_sl1, go_sl2, go_sl3, go_noP, go_p, go_p1, go_rev, go_rev1, go_chain, go_ch1, go_ch2, go_ch3T, go_ch3F, go_ch4, go_dic, go_dic1, go_prs_nil, go_prs, go_prs1, go_prs2, go_prs3, go_prs4, kW_ok, go_fcall, go_fcall1, kRunW_ok, go_okW, go_cf, go_cf1, oAdd_int, oAdd_bl, atI_0, atI_1, atI_2, atI_3, ixN_0, ixN_1, ixN_2, sz_lit, List.getElem?_cons_zero, List.getElem?_cons_succ, List.set_cons_zero, List.set_cons_succ, List.nil_append, List.cons_append, List.append_nil, List.length_cons, List.length_nil, Nat.reduceSub, Nat.reduceLeDiff, Nat.zero_add, Option.bind_some, Option.map_some, reduceCtorEq, Int.reduceLT, Int.reduceLE, Int.reduceNeg, Int.reducePow, Int.reduceToNat, and_true, true_and, and_self, ite_true, ite_false, if_true, if_false, Bool.not_true, Bool.not_false, Bool.true_and, Bool.false_and, Bool.and_true, Bool.and_false, Bool.true_or, Bool.false_or, oSub, oNeg, oLt, oLe, oGt, oGe, oIs, oIsNot, Vs.isNon, oTru, oBl, oIx, oLen, oAbs, oIntC, oMax2, oMin2, oTupC, oLstC, oSl, keyD, decide_true, decide_false, plainE, fzE, gIx, List.filterMap_cons, List.filterMap_nil, wipeE, restE, List.all_cons, List.all_nil, List.getD_eq_getElem?_getD, Option.getD_some, oMod_ok, oFdiv_ok, oPow_lit, oMul_lit, oRepr_bl, oEq_str, oNe_str, oEq_int, oNe_int, oEq_bl, oNe_bl, oEq_nil, oNe_nil, oIsi_int, oIsi_bool, oIsi_listed, str_beq, b__law_rows_right_3, b__law_rows_right_4]
  refine go_loop (fun _ e => rowI W4 m low (low + u) x e) _ 0 _ ?_ ⟨_, _, _, _, rfl⟩ ?_
  · rintro i y _ hi ⟨c, a, b, d, rfl⟩
    obtain ⟨z, rfl⟩ : ∃ z, y = D.int z := by
      have := List.mem_of_getElem? hi
      simp only [List.mem_cons, List.not_mem_nil, or_false] at this
      rcases this with rfl | rfl | rfl <;> exact ⟨_, rfl⟩
    exact ⟨_, rfl, turn_row W4 m low (low + u) z x a b d hx⟩
  · rintro _ ⟨c, a, b, d, rfl⟩
    simp only [k_ok, k_exc, kS_ok, kS_exc, kq_next, kq_ret, kq_brk, kq_cont, kq_exc, kq_retF, go_ok, go_exc, go_next, go_ret, go_brk, go_cont, go_excS, go_retF, go_some, go_v, getV_fz, go_c, go_bin, go_bin1, go_bin2, go_un, go_un1, go_tru, go_tru1, go_bl, go_bl1, go_and, go_andT, go_andF, go_or, go_orT, go_orF, go_not, go_not1, go_andV, go_orV, go_andV1, go_orV1, go_andVT, go_andVF, go_orVT, go_orVF, go_notV, go_notV1, go_notV2, go_if, go_ifT, go_ifF, go_nil, go_cons, go_cons1, go_cons2, go_chk, go_lst, go_tup, go_lst1, go_tup1, go_cal, go_cal1, go_isi, go_isi1, go_seq, go_sRet, go_ret1, go_sExpr, go_ex1, go_sIf, go_sifT, go_sifF, go_optS, go_sAsg, go_asg1, go_sSet, go_set1, go_sPar, go_par1, go_sAug, go_augV, kN_eq, kNil_eq, kCons_eq, kT_eq, rdE_eq, rdO_fz, rdO_ol, ownE_eq, owO_ol, go_binL, go_binL1, go_binL2, oSw_eq, go_binR, go_binR1, go_sPut, go_put1, go_putO, go_put2, go_putP, go_putN, go_retF1, go_fLst, go_fl1, go_sOwn, go_own1, go_call, go_call1, kFR_ok, kFR_exc, go_callIo, go_io0, go_io1, go_io2, kIo_ok, kIo_exc, go_callN, go_calln1, go_calln2, go_okF, go_excF, kRun_next, kRun_ret, kRun_exc, finF_none, finF_some, finS_ol, go_finO, go_finX, go_items, go_items_lst, go_items_tup, go_rng1, go_rng1_ok, go_rng2, go_rng2_ok, go_zip, go_zip_l, go_zip_t, go_enum, go_enum_l, go_sFor, go_for1, kLoop_next, kLoop_cont, kLoop_brk, kLoop_ret, kLoop_exc, turn_next, turn_cont, go_lc, go_lc1, kLc_ok, elem_ok, go_yes, go_sl, go_sl1, go_sl2, go_sl3, go_noP, go_p, go_p1, go_rev, go_rev1, go_chain, go_ch1, go_ch2, go_ch3T, go_ch3F, go_ch4, go_dic, go_dic1, go_prs_nil, go_prs, go_prs1, go_prs2, go_prs3, go_prs4, kW_ok, go_fcall, go_fcall1, kRunW_ok, go_okW, go_cf, go_cf1, oAdd_int, oAdd_bl, atI_0, atI_1, atI_2, atI_3, ixN_0, ixN_1, ixN_2, sz_lit, List.getElem?_cons_zero, List.getElem?_cons_succ, List.set_cons_zero, List.set_cons_succ, List.nil_append, List.cons_append, List.append_nil, List.length_cons, List.length_nil, Nat.reduceSub, Nat.reduceLeDiff, Nat.zero_add, Option.bind_some, Option.map_some, reduceCtorEq, Int.reduceLT, Int.reduceLE, Int.reduceNeg, Int.reducePow, Int.reduceToNat, and_true, true_and, and_self, ite_true, ite_false, if_true, if_false, Bool.not_true, Bool.not_false, Bool.true_and, Bool.false_and, Bool.and_true, Bool.and_false, Bool.true_or, Bool.false_or, oSub, oNeg, oLt, oLe, oGt, oGe, oIs, oIsNot, Vs.isNon, oTru, oBl, oIx, oLen, oAbs, oIntC, oMax2, oMin2, oTupC, oLstC, oSl, keyD, decide_true, decide_false, plainE, fzE, gIx, List.filterMap_cons, List.filterMap_nil, wipeE, restE, List.all_cons, List.all_nil, List.getD_eq_getElem?_getD, Option.getD_some, oMod_ok, oFdiv_ok, oPow_lit, oMul_lit, oRepr_bl, oEq_str, oNe_str, oEq_int, oNe_int, oEq_bl, oNe_bl, oEq_nil, oNe_nil, oIsi_int, oIsi_bool, oIsi_listed, str_beq, b__law_rows_right_5]
    exact hK _ (h4.mono (by omega))
def ltF : D → D → D
  | .int a, .int b => .bl (decide (a < b))
  | _, _ => .non
def ltP : D → Bool
  | .tup [.int a, .int b] => decide (a < b)
  | _ => false
theorem zip_ints : ∀ ns : List Int, ∀ d ∈ zipD (ns.map D.int) ((ns.map D.int).drop 1), ∃ a b, d = .tup [.int a, .int b]
  | [], d, h => by cases h
  | [a], d, h => by cases h
  | a :: b :: r, d, h => by
    simp only [List.map_cons, List.drop_succ_cons, List.drop_zero, zipD, List.mem_cons] at h
    rcases h with rfl | h
    · exact ⟨a, b, rfl⟩
    · exact zip_ints (b :: r) d (by simpa [zipD] using h)
theorem zip_asc : ∀ ns : List Int, (zipD (ns.map D.int) ((ns.map D.int).drop 1)).all ltP = ascI ns
  | [] => rfl
  | [a] => rfl
  | a :: b :: r => by
    have ih := zip_asc (b :: r)
    simp only [List.map_cons, List.drop_succ_cons, List.drop_zero, zipD, List.all_cons, ltP, ascI] at ih ⊢
    rw [ih]
theorem zip_pair (ns : List Int) : (zipD (ns.map D.int) ((ns.map D.int).drop 1)).map (pairF ltF) = (zipD (ns.map D.int) ((ns.map D.int).drop 1)).map (fun d => .bl (ltP d)) := by
  refine List.map_congr_left fun d hd => ?_
  obtain ⟨a, b, rfl⟩ := zip_ints ns d hd
  rfl
theorem zip_len : ∀ xs ys : List D, (zipD xs ys).length ≤ xs.length
  | [], _ => by simp [zipD]
  | _ :: _, [] => by simp [zipD]
  | x :: xs, y :: ys => by simpa [zipD] using zip_len xs ys
theorem ints_of_all : ∀ {xs : List D} {lo hi : D}, xs.all (wth · lo hi) = true → ∃ ns : List Int, xs = ns.map D.int
  | [], _, _, _ => ⟨[], rfl⟩
  | x :: xs, lo, hi, h => by
    simp only [List.all_cons, Bool.and_eq_true] at h
    obtain ⟨ns, rfl⟩ := ints_of_all h.2
    cases x <;> simp [wth] at h
    exact ⟨_ :: ns, rfl⟩
def lotL (xs : List D) (m : Int) : Bool := xs.all (wth · (.int 0) (.int (m - 1))) && (zipD xs (xs.drop 1)).all ltP
def lotD (d : D) (m : Int) : Bool := match d with
  | .lst xs => lotL xs m
  | .tup xs => lotL xs m
  | _ => false
theorem v_lot_lst (xs : List D) (m : Int) (hd : xs.length ≤ 1000) : F_is_lot none [.lst xs, .int m] = .ok (.bl (lotL xs m)) none := of_go (by
  rw [run_is_lot]; unfold b_is_lot
  simp only [k_ok, k_exc, kS_ok, kS_exc, kq_next, kq_ret, kq_brk, kq_cont, kq_exc, kq_retF, go_ok, go_exc, go_next, go_ret, go_brk, go_cont, go_excS, go_retF, go_some, go_v, getV_fz, go_c, go_bin, go_bin1, go_bin2, go_un, go_un1, go_tru, go_tru1, go_bl, go_bl1, go_and, go_andT, go_andF, go_or, go_orT, go_orF, go_not, go_not1, go_andV, go_orV, go_andV1, go_orV1, go_andVT, go_andVF, go_orVT, go_orVF, go_notV, go_notV1, go_notV2, go_if, go_ifT, go_ifF, go_nil, go_cons, go_cons1, go_cons2, go_chk, go_lst, go_tup, go_lst1, go_tup1, go_cal, go_cal1, go_isi, go_isi1, go_seq, go_sRet, go_ret1, go_sExpr, go_ex1, go_sIf, go_sifT, go_sifF, go_optS, go_sAsg, go_asg1, go_sSet, go_set1, go_sPar, go_par1, go_sAug, go_augV, kN_eq, kNil_eq, kCons_eq, kT_eq, rdE_eq, rdO_fz, rdO_ol, ownE_eq, owO_ol, go_binL, go_binL1, go_binL2, oSw_eq, go_binR, go_binR1, go_sPut, go_put1, go_putO, go_put2, go_putP, go_putN, go_retF1, go_fLst, go_fl1, go_sOwn, go_own1, go_call, go_call1, kFR_ok, kFR_exc, go_callIo, go_io0, go_io1, go_io2, kIo_ok, kIo_exc, go_callN, go_calln1, go_calln2, go_okF, go_excF, kRun_next, kRun_ret, kRun_exc, finF_none, finF_some, finS_ol, go_finO, go_finX, go_items, go_items_lst, go_items_tup, go_rng1, go_rng1_ok, go_rng2, go_rng2_ok, go_zip, go_zip_l, go_zip_t, go_enum, go_enum_l, go_sFor, go_for1, kLoop_next, kLoop_cont, kLoop_brk, kLoop_ret, kLoop_exc, turn_next, turn_cont, go_lc, go_lc1, kLc_ok, elem_ok, go_yes, go_sl, go_sl1, go_sl2, go_sl3, go_noP, go_p, go_p1, go_rev, go_rev1, go_chain, go_ch1, go_ch2, go_ch3T, go_ch3F, go_ch4, go_dic, go_dic1, go_prs_nil, go_prs, go_prs1, go_prs2, go_prs3, go_prs4, kW_ok, go_fcall, go_fcall1, kRunW_ok, go_okW, go_cf, go_cf1, oAdd_int, oAdd_bl, atI_0, atI_1, atI_2, atI_3, ixN_0, ixN_1, ixN_2, sz_lit, List.getElem?_cons_zero, List.getElem?_cons_succ, List.set_cons_zero, List.set_cons_succ, List.nil_append, List.cons_append, List.append_nil, List.length_cons, List.length_nil, Nat.reduceSub, Nat.reduceLeDiff, Nat.zero_add, Option.bind_some, Option.map_some, reduceCtorEq, Int.reduceLT, Int.reduceLE, Int.reduceNeg, Int.reducePow, Int.reduceToNat, and_true, true_and, and_self, ite_true, ite_false, if_true, if_false, Bool.not_true, Bool.not_false, Bool.true_and, Bool.false_and, Bool.and_true, Bool.and_false, Bool.true_or, Bool.false_or, oSub, oNeg, oLt, oLe, oGt, oGe, oIs, oIsNot, Vs.isNon, oTru, oBl, oIx, oLen, oAbs, oIntC, oMax2, oMin2, oTupC, oLstC, oSl, keyD, decide_true, decide_false, plainE, fzE, gIx, List.filterMap_cons, List.filterMap_nil, wipeE, restE, List.all_cons, List.all_nil, List.getD_eq_getElem?_getD, Option.getD_some, oMod_ok, oFdiv_ok, oPow_lit, oMul_lit, oRepr_bl, oEq_str, oNe_str, oEq_int, oNe_int, oEq_bl, oNe_bl, oEq_nil, oNe_nil, oIsi_int, oIsi_bool, oIsi_listed, str_beq, v_is_listed, isL]
  refine go_mapC (fun d => .bl (wth d (.int 0) (.int (m - 1)))) rfl (fun d _ => ?_) ?_
  · have q1 : Lim (.int 0) := trivial
    have q2 : Lim (.int (m - 1)) := trivial
    simp only [k_ok, k_exc, kS_ok, kS_exc, kq_next, kq_ret, kq_brk, kq_cont, kq_exc, kq_retF, go_ok, go_exc, go_next, go_ret, go_brk, go_cont, go_excS, go_retF, go_some, go_v, getV_fz, go_c, go_bin, go_bin1, go_bin2, go_un, go_un1, go_tru, go_tru1, go_bl, go_bl1, go_and, go_andT, go_andF, go_or, go_orT, go_orF, go_not, go_not1, go_andV, go_orV, go_andV1, go_orV1, go_andVT, go_andVF, go_orVT, go_orVF, go_notV, go_notV1, go_notV2, go_if, go_ifT, go_ifF, go_nil, go_cons, go_cons1, go_cons2, go_chk, go_lst, go_tup, go_lst1, go_tup1, go_cal, go_cal1, go_isi, go_isi1, go_seq, go_sRet, go_ret1, go_sExpr, go_ex1, go_sIf, go_sifT, go_sifF, go_optS, go_sAsg, go_asg1, go_sSet, go_set1, go_sPar, go_par1, go_sAug, go_augV, kN_eq, kNil_eq, kCons_eq, kT_eq, rdE_eq, rdO_fz, rdO_ol, ownE_eq, owO_ol, go_binL, go_binL1, go_binL2, oSw_eq, go_binR, go_binR1, go_sPut, go_put1, go_putO, go_put2, go_putP, go_putN, go_retF1, go_fLst, go_fl1, go_sOwn, go_own1, go_call, go_call1, kFR_ok, kFR_exc, go_callIo, go_io0, go_io1, go_io2, kIo_ok, kIo_exc, go_callN, go_calln1, go_calln2, go_okF, go_excF, kRun_next, kRun_ret, kRun_exc, finF_none, finF_some, finS_ol, go_finO, go_finX, go_items, go_items_lst, go_items_tup, go_rng1, go_rng1_ok, go_rng2, go_rng2_ok, go_zip, go_zip_l, go_zip_t, go_enum, go_enum_l, go_sFor, go_for1, kLoop_next, kLoop_cont, kLoop_brk, kLoop_ret, kLoop_exc, turn_next, turn_cont, go_lc, go_lc1, kLc_ok, elem_ok, go_yes, go_sl, go_sl1, go_sl2, go_sl3, go_noP, go_p, go_p1, go_rev, go_rev1, go_chain, go_ch1, go_ch2, go_ch3T, go_ch3F, go_ch4, go_dic, go_dic1, go_prs_nil, go_prs, go_prs1, go_prs2, go_prs3, go_prs4, kW_ok, go_fcall, go_fcall1, kRunW_ok, go_okW, go_cf, go_cf1, oAdd_int, oAdd_bl, atI_0, atI_1, atI_2, atI_3, ixN_0, ixN_1, ixN_2, sz_lit, List.getElem?_cons_zero, List.getElem?_cons_succ, List.set_cons_zero, List.set_cons_succ, List.nil_append, List.cons_append, List.append_nil, List.length_cons, List.length_nil, Nat.reduceSub, Nat.reduceLeDiff, Nat.zero_add, Option.bind_some, Option.map_some, reduceCtorEq, Int.reduceLT, Int.reduceLE, Int.reduceNeg, Int.reducePow, Int.reduceToNat, and_true, true_and, and_self, ite_true, ite_false, if_true, if_false, Bool.not_true, Bool.not_false, Bool.true_and, Bool.false_and, Bool.and_true, Bool.and_false, Bool.true_or, Bool.false_or, oSub, oNeg, oLt, oLe, oGt, oGe, oIs, oIsNot, Vs.isNon, oTru, oBl, oIx, oLen, oAbs, oIntC, oMax2, oMin2, oTupC, oLstC, oSl, keyD, decide_true, decide_false, plainE, fzE, gIx, List.filterMap_cons, List.filterMap_nil, wipeE, restE, List.all_cons, List.all_nil, List.getD_eq_getElem?_getD, Option.getD_some, oMod_ok, oFdiv_ok, oPow_lit, oMul_lit, oRepr_bl, oEq_str, oNe_str, oEq_int, oNe_int, oEq_bl, oNe_bl, oEq_nil, oNe_nil, oIsi_int, oIsi_bool, oIsi_listed, str_beq, v_is_within _ _ _ q1 q2]
  rw [kLc_ok (by rw [List.length_map]; exact small_sz hd)]
  simp only [k_ok, k_exc, kS_ok, kS_exc, kq_next, kq_ret, kq_brk, kq_cont, kq_exc, kq_retF, go_ok, go_exc, go_next, go_ret, go_brk, go_cont, go_excS, go_retF, go_some, go_v, getV_fz, go_c, go_bin, go_bin1, go_bin2, go_un, go_un1, go_tru, go_tru1, go_bl, go_bl1, go_and, go_andT, go_andF, go_or, go_orT, go_orF, go_not, go_not1, go_andV, go_orV, go_andV1, go_orV1, go_andVT, go_andVF, go_orVT, go_orVF, go_notV, go_notV1, go_notV2, go_if, go_ifT, go_ifF, go_nil, go_cons, go_cons1, go_cons2, go_chk, go_lst, go_tup, go_lst1, go_tup1, go_cal, go_cal1, go_isi, go_isi1, go_seq, go_sRet, go_ret1, go_sExpr, go_ex1, go_sIf, go_sifT, go_sifF, go_optS, go_sAsg, go_asg1, go_sSet, go_set1, go_sPar, go_par1, go_sAug, go_augV, kN_eq, kNil_eq, kCons_eq, kT_eq, rdE_eq, rdO_fz, rdO_ol, ownE_eq, owO_ol, go_binL, go_binL1, go_binL2, oSw_eq, go_binR, go_binR1, go_sPut, go_put1, go_putO, go_put2, go_putP, go_putN, go_retF1, go_fLst, go_fl1, go_sOwn, go_own1, go_call, go_call1, kFR_ok, kFR_exc, go_callIo, go_io0, go_io1, go_io2, kIo_ok, kIo_exc, go_callN, go_calln1, go_calln2, go_okF, go_excF, kRun_next, kRun_ret, kRun_exc, finF_none, finF_some, finS_ol, go_finO, go_finX, go_items, go_items_lst, go_items_tup, go_rng1, go_rng1_ok, go_rng2, go_rng2_ok, go_zip, go_zip_l, go_zip_t, go_enum, go_enum_l, go_sFor, go_for1, kLoop_next, kLoop_cont, kLoop_brk, kLoop_ret, kLoop_exc, turn_next, turn_cont, go_lc, go_lc1, kLc_ok, elem_ok, go_yes, go_sl, go_sl1, go_sl2, go_sl3, go_noP, go_p, go_p1, go_rev, go_rev1, go_chain, go_ch1, go_ch2, go_ch3T, go_ch3F, go_ch4, go_dic, go_dic1, go_prs_nil, go_prs, go_prs1, go_prs2, go_prs3, go_prs4, kW_ok, go_fcall, go_fcall1, kRunW_ok, go_okW, go_cf, go_cf1, oAdd_int, oAdd_bl, atI_0, atI_1, atI_2, atI_3, ixN_0, ixN_1, ixN_2, sz_lit, List.getElem?_cons_zero, List.getElem?_cons_succ, List.set_cons_zero, List.set_cons_succ, List.nil_append, List.cons_append, List.append_nil, List.length_cons, List.length_nil, Nat.reduceSub, Nat.reduceLeDiff, Nat.zero_add, Option.bind_some, Option.map_some, reduceCtorEq, Int.reduceLT, Int.reduceLE, Int.reduceNeg, Int.reducePow, Int.reduceToNat, and_true, true_and, and_self, ite_true, ite_false, if_true, if_false, Bool.not_true, Bool.not_false, Bool.true_and, Bool.false_and, Bool.and_true, Bool.and_false, Bool.true_or, Bool.false_or, oSub, oNeg, oLt, oLe, oGt, oGe, oIs, oIsNot, Vs.isNon, oTru, oBl, oIx, oLen, oAbs, oIntC, oMax2, oMin2, oTupC, oLstC, oSl, keyD, decide_true, decide_false, plainE, fzE, gIx, List.filterMap_cons, List.filterMap_nil, wipeE, restE, List.all_cons, List.all_nil, List.getD_eq_getElem?_getD, Option.getD_some, oMod_ok, oFdiv_ok, oPow_lit, oMul_lit, oRepr_bl, oEq_str, oNe_str, oEq_int, oNe_int, oEq_bl, oNe_bl, oEq_nil, oNe_nil, oIsi_int, oIsi_bool, oIsi_listed, str_beq, oAll_map, lotL]
  cases hA : xs.all (wth · (.int 0) (.int (m - 1))) with
  | false => simp only [k_ok, k_exc, kS_ok, kS_exc, kq_next, kq_ret, kq_brk, kq_cont, kq_exc, kq_retF, go_ok, go_exc, go_next, go_ret, go_brk, go_cont, go_excS, go_retF, go_some, go_v, getV_fz, go_c, go_bin, go_bin1, go_bin2, go_un, go_un1, go_tru, go_tru1, go_bl, go_bl1, go_and, go_andT, go_andF, go_or, go_orT, go_orF, go_not, go_not1, go_andV, go_orV, go_andV1, go_orV1, go_andVT, go_andVF, go_orVT, go_orVF, go_notV, go_notV1, go_notV2, go_if, go_ifT, go_ifF, go_nil, go_cons, go_cons1, go_cons2, go_chk, go_lst, go_tup, go_lst1, go_tup1, go_cal, go_cal1, go_isi, go_isi1, go_seq, go_sRet, go_ret1, go_sExpr, go_ex1, go_sIf, go_sifT, go_sifF, go_optS, go_sAsg, go_asg1, go_sSet, go_set1, go_sPar, go_par1, go_sAug, go_augV, kN_eq, kNil_eq, kCons_eq, kT_eq, rdE_eq, rdO_fz, rdO_ol, ownE_eq, owO_ol, go_binL, go_binL1, go_binL2, oSw_eq, go_binR, go_binR1, go_sPut, go_put1, go_putO, go_put2, go_putP, go_putN, go_retF1, go_fLst, go_fl1, go_sOwn, go_own1, go_call, go_call1, kFR_ok, kFR_exc, go_callIo, go_io0, go_io1, go_io2, kIo_ok, kIo_exc, go_callN, go_calln1, go_calln2, go_okF, go_excF, kRun_next, kRun_ret, kRun_exc, finF_none, finF_some, finS_ol, go_finO, go_finX, go_items, go_items_lst, go_items_tup, go_rng1, go_rng1_ok, go_rng2, go_rng2_ok, go_zip, go_zip_l, go_zip_t, go_enum, go_enum_l, go_sFor, go_for1, kLoop_next, kLoop_cont, kLoop_brk, kLoop_ret, kLoop_exc, turn_next, turn_cont, go_lc, go_lc1, kLc_ok, elem_ok, go_yes, go_sl, go_sl1, go_sl2, go_sl3, go_noP, go_p, go_p1, go_rev, go_rev1, go_chain, go_ch1, go_ch2, go_ch3T, go_ch3F, go_ch4, go_dic, go_dic1, go_prs_nil, go_prs, go_prs1, go_prs2, go_prs3, go_prs4, kW_ok, go_fcall, go_fcall1, kRunW_ok, go_okW, go_cf, go_cf1, oAdd_int, oAdd_bl, atI_0, atI_1, atI_2, atI_3, ixN_0, ixN_1, ixN_2, sz_lit, List.getElem?_cons_zero, List.getElem?_cons_succ, List.set_cons_zero, List.set_cons_succ, List.nil_append, List.cons_append, List.append_nil, List.length_cons, List.length_nil, Nat.reduceSub, Nat.reduceLeDiff, Nat.zero_add, Option.bind_some, Option.map_some, reduceCtorEq, Int.reduceLT, Int.reduceLE, Int.reduceNeg, Int.reducePow, Int.reduceToNat, and_true, true_and, and_self, ite_true, ite_false, if_true, if_false, Bool.not_true, Bool.not_false, Bool.true_and, Bool.false_and, Bool.and_true, Bool.and_false, Bool.true_or, Bool.false_or, oSub, oNeg, oLt, oLe, oGt, oGe, oIs, oIsNot, Vs.isNon, oTru, oBl, oIx, oLen, oAbs, oIntC, oMax2, oMin2, oTupC, oLstC, oSl, keyD, decide_true, decide_false, plainE, fzE, gIx, List.filterMap_cons, List.filterMap_nil, wipeE, restE, List.all_cons, List.all_nil, List.getD_eq_getElem?_getD, Option.getD_some, oMod_ok, oFdiv_ok, oPow_lit, oMul_lit, oRepr_bl, oEq_str, oNe_str, oEq_int, oNe_int, oEq_bl, oNe_bl, oEq_nil, oNe_nil, oIsi_int, oIsi_bool, oIsi_listed, str_beq]
  | true =>
    obtain ⟨ns, rfl⟩ := ints_of_all hA
    simp only [k_ok, k_exc, kS_ok, kS_exc, kq_next, kq_ret, kq_brk, kq_cont, kq_exc, kq_retF, go_ok, go_exc, go_next, go_ret, go_brk, go_cont, go_excS, go_retF, go_some, go_v, getV_fz, go_c, go_bin, go_bin1, go_bin2, go_un, go_un1, go_tru, go_tru1, go_bl, go_bl1, go_and, go_andT, go_andF, go_or, go_orT, go_orF, go_not, go_not1, go_andV, go_orV, go_andV1, go_orV1, go_andVT, go_andVF, go_orVT, go_orVF, go_notV, go_notV1, go_notV2, go_if, go_ifT, go_ifF, go_nil, go_cons, go_cons1, go_cons2, go_chk, go_lst, go_tup, go_lst1, go_tup1, go_cal, go_cal1, go_isi, go_isi1, go_seq, go_sRet, go_ret1, go_sExpr, go_ex1, go_sIf, go_sifT, go_sifF, go_optS, go_sAsg, go_asg1, go_sSet, go_set1, go_sPar, go_par1, go_sAug, go_augV, kN_eq, kNil_eq, kCons_eq, kT_eq, rdE_eq, rdO_fz, rdO_ol, ownE_eq, owO_ol, go_binL, go_binL1, go_binL2, oSw_eq, go_binR, go_binR1, go_sPut, go_put1, go_putO, go_put2, go_putP, go_putN, go_retF1, go_fLst, go_fl1, go_sOwn, go_own1, go_call, go_call1, kFR_ok, kFR_exc, go_callIo, go_io0, go_io1, go_io2, kIo_ok, kIo_exc, go_callN, go_calln1, go_calln2, go_okF, go_excF, kRun_next, kRun_ret, kRun_exc, finF_none, finF_some, finS_ol, go_finO, go_finX, go_items, go_items_lst, go_items_tup, go_rng1, go_rng1_ok, go_rng2, go_rng2_ok, go_zip, go_zip_l, go_zip_t, go_enum, go_enum_l, go_sFor, go_for1, kLoop_next, kLoop_cont, kLoop_brk, kLoop_ret, kLoop_exc, turn_next, turn_cont, go_lc, go_lc1, kLc_ok, elem_ok, go_yes, go_sl, go_sl1, go_sl2, go_sl3, go_noP, go_p, go_p1, go_rev, go_rev1, go_chain, go_ch1, go_ch2, go_ch3T, go_ch3F, go_ch4, go_dic, go_dic1, go_prs_nil, go_prs, go_prs1, go_prs2, go_prs3, go_prs4, kW_ok, go_fcall, go_fcall1, kRunW_ok, go_okW, go_cf, go_cf1, oAdd_int, oAdd_bl, atI_0, atI_1, atI_2, atI_3, ixN_0, ixN_1, ixN_2, sz_lit, List.getElem?_cons_zero, List.getElem?_cons_succ, List.set_cons_zero, List.set_cons_succ, List.nil_append, List.cons_append, List.append_nil, List.length_cons, List.length_nil, Nat.reduceSub, Nat.reduceLeDiff, Nat.zero_add, Option.bind_some, Option.map_some, reduceCtorEq, Int.reduceLT, Int.reduceLE, Int.reduceNeg, Int.reducePow, Int.reduceToNat, and_true, true_and, and_self, ite_true, ite_false, if_true, if_false, Bool.not_true, Bool.not_false, Bool.true_and, Bool.false_and, Bool.and_true, Bool.and_false, Bool.true_or, Bool.false_or, oSub, oNeg, oLt, oLe, oGt, oGe, oIs, oIsNot, Vs.isNon, oTru, oBl, oIx, oLen, oAbs, oIntC, oMax2, oMin2, oTupC, oLstC, oSl, keyD, decide_true, decide_false, plainE, fzE, gIx, List.filterMap_cons, List.filterMap_nil, wipeE, restE, List.all_cons, List.all_nil, List.getD_eq_getElem?_getD, Option.getD_some, oMod_ok, oFdiv_ok, oPow_lit, oMul_lit, oRepr_bl, oEq_str, oNe_str, oEq_int, oNe_int, oEq_bl, oNe_bl, oEq_nil, oNe_nil, oIsi_int, oIsi_bool, oIsi_listed, str_beq, b_is_lot_1, cutD_tail]
    refine go_pairC ltF (fun _ _ => rfl) (fun d hd => ?_) ?_
    · obtain ⟨a, b, rfl⟩ := zip_ints ns d hd
      refine ⟨_, _, rfl, ?_⟩
      simp only [k_ok, k_exc, kS_ok, kS_exc, kq_next, kq_ret, kq_brk, kq_cont, kq_exc, kq_retF, go_ok, go_exc, go_next, go_ret, go_brk, go_cont, go_excS, go_retF, go_some, go_v, getV_fz, go_c, go_bin, go_bin1, go_bin2, go_un, go_un1, go_tru, go_tru1, go_bl, go_bl1, go_and, go_andT, go_andF, go_or, go_orT, go_orF, go_not, go_not1, go_andV, go_orV, go_andV1, go_orV1, go_andVT, go_andVF, go_orVT, go_orVF, go_notV, go_notV1, go_notV2, go_if, go_ifT, go_ifF, go_nil, go_cons, go_cons1, go_cons2, go_chk, go_lst, go_tup, go_lst1, go_tup1, go_cal, go_cal1, go_isi, go_isi1, go_seq, go_sRet, go_ret1, go_sExpr, go_ex1, go_sIf, go_sifT, go_sifF, go_optS, go_sAsg, go_asg1, go_sSet, go_set1, go_sPar, go_par1, go_sAug, go_augV, kN_eq, kNil_eq, kCons_eq, kT_eq, rdE_eq, rdO_fz, rdO_ol, ownE_eq, owO_ol, go_binL, go_binL1, go_binL2, oSw_eq, go_binR, go_binR1, go_sPut, go_put1, go_putO, go_put2, go_putP, go_putN, go_retF1, go_fLst, go_fl1, go_sOwn, go_own1, go_call, go_call1, kFR_ok, kFR_exc, go_callIo, go_io0, go_io1, go_io2, kIo_ok, kIo_exc, go_callN, go_calln1, go_calln2, go_okF, go_excF, kRun_next, kRun_ret, kRun_exc, finF_none, finF_some, finS_ol, go_finO, go_finX, go_items, go_items_lst, go_items_tup, go_rng1, go_rng1_ok, go_rng2, go_rng2_ok, go_zip, go_zip_l, go_zip_t, go_enum, go_enum_l, go_sFor, go_for1, kLoop_next, kLoop_cont, kLoop_brk, kLoop_ret, kLoop_exc, turn_next, turn_cont, go_lc, go_lc1, kLc_ok, elem_ok, go_yes, go_sl, go_sl1, go_sl2, go_sl3, go_noP, go_p, go_p1, go_rev, go_rev1, go_chain, go_ch1, go_ch2, go_ch3T, go_ch3F, go_ch4, go_dic, go_dic1, go_prs_nil, go_prs, go_prs1, go_prs2, go_prs3, go_prs4, kW_ok, go_fcall, go_fcall1, kRunW_ok, go_okW, go_cf, go_cf1, oAdd_int, oAdd_bl, atI_0, atI_1, atI_2, atI_3, ixN_0, ixN_1, ixN_2, sz_lit, List.getElem?_cons_zero, List.getElem?_cons_succ, List.set_cons_zero, List.set_cons_succ, List.nil_append, List.cons_append, List.append_nil, List.length_cons, List.length_nil, Nat.reduceSub, Nat.reduceLeDiff, Nat.zero_add, Option.bind_some, Option.map_some, reduceCtorEq, Int.reduceLT, Int.reduceLE, Int.reduceNeg, Int.reducePow, Int.reduceToNat, and_true, true_and, and_self, ite_true, ite_false, if_true, if_false, Bool.not_true, Bool.not_false, Bool.true_and, Bool.false_and, Bool.and_true, Bool.and_false, Bool.true_or, Bool.false_or, oSub, oNeg, oLt, oLe, oGt, oGe, oIs, oIsNot, Vs.isNon, oTru, oBl, oIx, oLen, oAbs, oIntC, oMax2, oMin2, oTupC, oLstC, oSl, keyD, decide_true, decide_false, plainE, fzE, gIx, List.filterMap_cons, List.filterMap_nil, wipeE, restE, List.all_cons, List.all_nil, List.getD_eq_getElem?_getD, Option.getD_some, oMod_ok, oFdiv_ok, oPow_lit, oMul_lit, oRepr_bl, oEq_str, oNe_str, oEq_int, oNe_int, oEq_bl, oNe_bl, oEq_nil, oNe_nil, oIsi_int, oIsi_bool, oIsi_listed, str_beq, ltF]
    rw [kLc_ok (by rw [List.length_map]; exact small_sz (Nat.le_trans (zip_len _ _) hd)), zip_pair]
    simp only [k_ok, k_exc, kS_ok, kS_exc, kq_next, kq_ret, kq_brk, kq_cont, kq_exc, kq_retF, go_ok, go_exc, go_next, go_ret, go_brk, go_cont, go_excS, go_retF, go_some, go_v, getV_fz, go_c, go_bin, go_bin1, go_bin2, go_un, go_un1, go_tru, go_tru1, go_bl, go_bl1, go_and, go_andT, go_andF, go_or, go_orT, go_orF, go_not, go_not1, go_andV, go_orV, go_andV1, go_orV1, go_andVT, go_andVF, go_orVT, go_orVF, go_notV, go_notV1, go_notV2, go_if, go_ifT, go_ifF, go_nil, go_cons, go_cons1, go_cons2, go_chk, go_lst, go_tup, go_lst1, go_tup1, go_cal, go_cal1, go_isi, go_isi1, go_seq, go_sRet, go_ret1, go_sExpr, go_ex1, go_sIf, go_sifT, go_sifF, go_optS, go_sAsg, go_asg1, go_sSet, go_set1, go_sPar, go_par1, go_sAug, go_augV, kN_eq, kNil_eq, kCons_eq, kT_eq, rdE_eq, rdO_fz, rdO_ol, ownE_eq, owO_ol, go_binL, go_binL1, go_binL2, oSw_eq, go_binR, go_binR1, go_sPut, go_put1, go_putO, go_put2, go_putP, go_putN, go_retF1, go_fLst, go_fl1, go_sOwn, go_own1, go_call, go_call1, kFR_ok, kFR_exc, go_callIo, go_io0, go_io1, go_io2, kIo_ok, kIo_exc, go_callN, go_calln1, go_calln2, go_okF, go_excF, kRun_next, kRun_ret, kRun_exc, finF_none, finF_some, finS_ol, go_finO, go_finX, go_items, go_items_lst, go_items_tup, go_rng1, go_rng1_ok, go_rng2, go_rng2_ok, go_zip, go_zip_l, go_zip_t, go_enum, go_enum_l, go_sFor, go_for1, kLoop_next, kLoop_cont, kLoop_brk, kLoop_ret, kLoop_exc, turn_next, turn_cont, go_lc, go_lc1, kLc_ok, elem_ok, go_yes, go_sl, go_sl1, go_sl2, go_sl3, go_noP, go_p, go_p1, go_rev, go_rev1, go_chain, go_ch1, go_ch2, go_ch3T, go_ch3F, go_ch4, go_dic, go_dic1, go_prs_nil, go_prs, go_prs1, go_prs2, go_prs3, go_prs4, kW_ok, go_fcall, go_fcall1, kRunW_ok, go_okW, go_cf, go_cf1, oAdd_int, oAdd_bl, atI_0, atI_1, atI_2, atI_3, ixN_0, ixN_1, ixN_2, sz_lit, List.getElem?_cons_zero, List.getElem?_cons_succ, List.set_cons_zero, List.set_cons_succ, List.nil_append, List.cons_append, List.append_nil, List.length_cons, List.length_nil, Nat.reduceSub, Nat.reduceLeDiff, Nat.zero_add, Option.bind_some, Option.map_some, reduceCtorEq, Int.reduceLT, Int.reduceLE, Int.reduceNeg, Int.reducePow, Int.reduceToNat, and_true, true_and, and_self, ite_true, ite_false, if_true, if_false, Bool.not_true, Bool.not_false, Bool.true_and, Bool.false_and, Bool.and_true, Bool.and_false, Bool.true_or, Bool.false_or, oSub, oNeg, oLt, oLe, oGt, oGe, oIs, oIsNot, Vs.isNon, oTru, oBl, oIx, oLen, oAbs, oIntC, oMax2, oMin2, oTupC, oLstC, oSl, keyD, decide_true, decide_false, plainE, fzE, gIx, List.filterMap_cons, List.filterMap_nil, wipeE, restE, List.all_cons, List.all_nil, List.getD_eq_getElem?_getD, Option.getD_some, oMod_ok, oFdiv_ok, oPow_lit, oMul_lit, oRepr_bl, oEq_str, oNe_str, oEq_int, oNe_int, oEq_bl, oNe_bl, oEq_nil, oNe_nil, oIsi_int, oIsi_bool, oIsi_listed, str_beq, oAll_map])
theorem v_lot_tup (xs : List D) (m : Int) (hd : xs.length ≤ 1000) : F_is_lot none [.tup xs, .int m] = .ok (.bl (lotL xs m)) none := of_go (by
  rw [run_is_lot]; unfold b_is_lot
  simp only [k_ok, k_exc, kS_ok, kS_exc, kq_next, kq_ret, kq_brk, kq_cont, kq_exc, kq_retF, go_ok, go_exc, go_next, go_ret, go_brk, go_cont, go_excS, go_retF, go_some, go_v, getV_fz, go_c, go_bin, go_bin1, go_bin2, go_un, go_un1, go_tru, go_tru1, go_bl, go_bl1, go_and, go_andT, go_andF, go_or, go_orT, go_orF, go_not, go_not1, go_andV, go_orV, go_andV1, go_orV1, go_andVT, go_andVF, go_orVT, go_orVF, go_notV, go_notV1, go_notV2, go_if, go_ifT, go_ifF, go_nil, go_cons, go_cons1, go_cons2, go_chk, go_lst, go_tup, go_lst1, go_tup1, go_cal, go_cal1, go_isi, go_isi1, go_seq, go_sRet, go_ret1, go_sExpr, go_ex1, go_sIf, go_sifT, go_sifF, go_optS, go_sAsg, go_asg1, go_sSet, go_set1, go_sPar, go_par1, go_sAug, go_augV, kN_eq, kNil_eq, kCons_eq, kT_eq, rdE_eq, rdO_fz, rdO_ol, ownE_eq, owO_ol, go_binL, go_binL1, go_binL2, oSw_eq, go_binR, go_binR1, go_sPut, go_put1, go_putO, go_put2, go_putP, go_putN, go_retF1, go_fLst, go_fl1, go_sOwn, go_own1, go_call, go_call1, kFR_ok, kFR_exc, go_callIo, go_io0, go_io1, go_io2, kIo_ok, kIo_exc, go_callN, go_calln1, go_calln2, go_okF, go_excF, kRun_next, kRun_ret, kRun_exc, finF_none, finF_some, finS_ol, go_finO, go_finX, go_items, go_items_lst, go_items_tup, go_rng1, go_rng1_ok, go_rng2, go_rng2_ok, go_zip, go_zip_l, go_zip_t, go_enum, go_enum_l, go_sFor, go_for1, kLoop_next, kLoop_cont, kLoop_brk, kLoop_ret, kLoop_exc, turn_next, turn_cont, go_lc, go_lc1, kLc_ok, elem_ok, go_yes, go_sl, go_sl1, go_sl2, go_sl3, go_noP, go_p, go_p1, go_rev, go_rev1, go_chain, go_ch1, go_ch2, go_ch3T, go_ch3F, go_ch4, go_dic, go_dic1, go_prs_nil, go_prs, go_prs1, go_prs2, go_prs3, go_prs4, kW_ok, go_fcall, go_fcall1, kRunW_ok, go_okW, go_cf, go_cf1, oAdd_int, oAdd_bl, atI_0, atI_1, atI_2, atI_3, ixN_0, ixN_1, ixN_2, sz_lit, List.getElem?_cons_zero, List.getElem?_cons_succ, List.set_cons_zero, List.set_cons_succ, List.nil_append, List.cons_append, List.append_nil, List.length_cons, List.length_nil, Nat.reduceSub, Nat.reduceLeDiff, Nat.zero_add, Option.bind_some, Option.map_some, reduceCtorEq, Int.reduceLT, Int.reduceLE, Int.reduceNeg, Int.reducePow, Int.reduceToNat, and_true, true_and, and_self, ite_true, ite_false, if_true, if_false, Bool.not_true, Bool.not_false, Bool.true_and, Bool.false_and, Bool.and_true, Bool.and_false, Bool.true_or, Bool.false_or, oSub, oNeg, oLt, oLe, oGt, oGe, oIs, oIsNot, Vs.isNon, oTru, oBl, oIx, oLen, oAbs, oIntC, oMax2, oMin2, oTupC, oLstC, oSl, keyD, decide_true, decide_false, plainE, fzE, gIx, List.filterMap_cons, List.filterMap_nil, wipeE, restE, List.all_cons, List.all_nil, List.getD_eq_getElem?_getD, Option.getD_some, oMod_ok, oFdiv_ok, oPow_lit, oMul_lit, oRepr_bl, oEq_str, oNe_str, oEq_int, oNe_int, oEq_bl, oNe_bl, oEq_nil, oNe_nil, oIsi_int, oIsi_bool, oIsi_listed, str_beq, v_is_listed, isL]
  refine go_mapC (fun d => .bl (wth d (.int 0) (.int (m - 1)))) rfl (fun d _ => ?_) ?_
  · have q1 : Lim (.int 0) := trivial
    have q2 : Lim (.int (m - 1)) := trivial
    simp only [k_ok, k_exc, kS_ok, kS_exc, kq_next, kq_ret, kq_brk, kq_cont, kq_exc, kq_retF, go_ok, go_exc, go_next, go_ret, go_brk, go_cont, go_excS, go_retF, go_some, go_v, getV_fz, go_c, go_bin, go_bin1, go_bin2, go_un, go_un1, go_tru, go_tru1, go_bl, go_bl1, go_and, go_andT, go_andF, go_or, go_orT, go_orF, go_not, go_not1, go_andV, go_orV, go_andV1, go_orV1, go_andVT, go_andVF, go_orVT, go_orVF, go_notV, go_notV1, go_notV2, go_if, go_ifT, go_ifF, go_nil, go_cons, go_cons1, go_cons2, go_chk, go_lst, go_tup, go_lst1, go_tup1, go_cal, go_cal1, go_isi, go_isi1, go_seq, go_sRet, go_ret1, go_sExpr, go_ex1, go_sIf, go_sifT, go_sifF, go_optS, go_sAsg, go_asg1, go_sSet, go_set1, go_sPar, go_par1, go_sAug, go_augV, kN_eq, kNil_eq, kCons_eq, kT_eq, rdE_eq, rdO_fz, rdO_ol, ownE_eq, owO_ol, go_binL, go_binL1, go_binL2, oSw_eq, go_binR, go_binR1, go_sPut, go_put1, go_putO, go_put2, go_putP, go_putN, go_retF1, go_fLst, go_fl1, go_sOwn, go_own1, go_call, go_call1, kFR_ok, kFR_exc, go_callIo, go_io0, go_io1, go_io2, kIo_ok, kIo_exc, go_callN, go_calln1, go_calln2, go_okF, go_excF, kRun_next, kRun_ret, kRun_exc, finF_none, finF_some, finS_ol, go_finO, go_finX, go_items, go_items_lst, go_items_tup, go_rng1, go_rng1_ok, go_rng2, go_rng2_ok, go_zip, go_zip_l, go_zip_t, go_enum, go_enum_l, go_sFor, go_for1, kLoop_next, kLoop_cont, kLoop_brk, kLoop_ret, kLoop_exc, turn_next, turn_cont, go_lc, go_lc1, kLc_ok, elem_ok, go_yes, go_sl, go_sl1, go_sl2, go_sl3, go_noP, go_p, go_p1, go_rev, go_rev1, go_chain, go_ch1, go_ch2, go_ch3T, go_ch3F, go_ch4, go_dic, go_dic1, go_prs_nil, go_prs, go_prs1, go_prs2, go_prs3, go_prs4, kW_ok, go_fcall, go_fcall1, kRunW_ok, go_okW, go_cf, go_cf1, oAdd_int, oAdd_bl, atI_0, atI_1, atI_2, atI_3, ixN_0, ixN_1, ixN_2, sz_lit, List.getElem?_cons_zero, List.getElem?_cons_succ, List.set_cons_zero, List.set_cons_succ, List.nil_append, List.cons_append, List.append_nil, List.length_cons, List.length_nil, Nat.reduceSub, Nat.reduceLeDiff, Nat.zero_add, Option.bind_some, Option.map_some, reduceCtorEq, Int.reduceLT, Int.reduceLE, Int.reduceNeg, Int.reducePow, Int.reduceToNat, and_true, true_and, and_self, ite_true, ite_false, if_true, if_false, Bool.not_true, Bool.not_false, Bool.true_and, Bool.false_and, Bool.and_true, Bool.and_false, Bool.true_or, Bool.false_or, oSub, oNeg, oLt, oLe, oGt, oGe, oIs, oIsNot, Vs.isNon, oTru, oBl, oIx, oLen, oAbs, oIntC, oMax2, oMin2, oTupC, oLstC, oSl, keyD, decide_true, decide_false, plainE, fzE, gIx, List.filterMap_cons, List.filterMap_nil, wipeE, restE, List.all_cons, List.all_nil, List.getD_eq_getElem?_getD, Option.getD_some, oMod_ok, oFdiv_ok, oPow_lit, oMul_lit, oRepr_bl, oEq_str, oNe_str, oEq_int, oNe_int, oEq_bl, oNe_bl, oEq_nil, oNe_nil, oIsi_int, oIsi_bool, oIsi_listed, str_beq, v_is_within _ _ _ q1 q2]
  rw [kLc_ok (by rw [List.length_map]; exact small_sz hd)]
  simp only [k_ok, k_exc, kS_ok, kS_exc, kq_next, kq_ret, kq_brk, kq_cont, kq_exc, kq_retF, go_ok, go_exc, go_next, go_ret, go_brk, go_cont, go_excS, go_retF, go_some, go_v, getV_fz, go_c, go_bin, go_bin1, go_bin2, go_un, go_un1, go_tru, go_tru1, go_bl, go_bl1, go_and, go_andT, go_andF, go_or, go_orT, go_orF, go_not, go_not1, go_andV, go_orV, go_andV1, go_orV1, go_andVT, go_andVF, go_orVT, go_orVF, go_notV, go_notV1, go_notV2, go_if, go_ifT, go_ifF, go_nil, go_cons, go_cons1, go_cons2, go_chk, go_lst, go_tup, go_lst1, go_tup1, go_cal, go_cal1, go_isi, go_isi1, go_seq, go_sRet, go_ret1, go_sExpr, go_ex1, go_sIf, go_sifT, go_sifF, go_optS, go_sAsg, go_asg1, go_sSet, go_set1, go_sPar, go_par1, go_sAug, go_augV, kN_eq, kNil_eq, kCons_eq, kT_eq, rdE_eq, rdO_fz, rdO_ol, ownE_eq, owO_ol, go_binL, go_binL1, go_binL2, oSw_eq, go_binR, go_binR1, go_sPut, go_put1, go_putO, go_put2, go_putP, go_putN, go_retF1, go_fLst, go_fl1, go_sOwn, go_own1, go_call, go_call1, kFR_ok, kFR_exc, go_callIo, go_io0, go_io1, go_io2, kIo_ok, kIo_exc, go_callN, go_calln1, go_calln2, go_okF, go_excF, kRun_next, kRun_ret, kRun_exc, finF_none, finF_some, finS_ol, go_finO, go_finX, go_items, go_items_lst, go_items_tup, go_rng1, go_rng1_ok, go_rng2, go_rng2_ok, go_zip, go_zip_l, go_zip_t, go_enum, go_enum_l, go_sFor, go_for1, kLoop_next, kLoop_cont, kLoop_brk, kLoop_ret, kLoop_exc, turn_next, turn_cont, go_lc, go_lc1, kLc_ok, elem_ok, go_yes, go_sl, go_sl1, go_sl2, go_sl3, go_noP, go_p, go_p1, go_rev, go_rev1, go_chain, go_ch1, go_ch2, go_ch3T, go_ch3F, go_ch4, go_dic, go_dic1, go_prs_nil, go_prs, go_prs1, go_prs2, go_prs3, go_prs4, kW_ok, go_fcall, go_fcall1, kRunW_ok, go_okW, go_cf, go_cf1, oAdd_int, oAdd_bl, atI_0, atI_1, atI_2, atI_3, ixN_0, ixN_1, ixN_2, sz_lit, List.getElem?_cons_zero, List.getElem?_cons_succ, List.set_cons_zero, List.set_cons_succ, List.nil_append, List.cons_append, List.append_nil, List.length_cons, List.length_nil, Nat.reduceSub, Nat.reduceLeDiff, Nat.zero_add, Option.bind_some, Option.map_some, reduceCtorEq, Int.reduceLT, Int.reduceLE, Int.reduceNeg, Int.reducePow, Int.reduceToNat, and_true, true_and, and_self, ite_true, ite_false, if_true, if_false, Bool.not_true, Bool.not_false, Bool.true_and, Bool.false_and, Bool.and_true, Bool.and_false, Bool.true_or, Bool.false_or, oSub, oNeg, oLt, oLe, oGt, oGe, oIs, oIsNot, Vs.isNon, oTru, oBl, oIx, oLen, oAbs, oIntC, oMax2, oMin2, oTupC, oLstC, oSl, keyD, decide_true, decide_false, plainE, fzE, gIx, List.filterMap_cons, List.filterMap_nil, wipeE, restE, List.all_cons, List.all_nil, List.getD_eq_getElem?_getD, Option.getD_some, oMod_ok, oFdiv_ok, oPow_lit, oMul_lit, oRepr_bl, oEq_str, oNe_str, oEq_int, oNe_int, oEq_bl, oNe_bl, oEq_nil, oNe_nil, oIsi_int, oIsi_bool, oIsi_listed, str_beq, oAll_map, lotL]
  cases hA : xs.all (wth · (.int 0) (.int (m - 1))) with
  | false => simp only [k_ok, k_exc, kS_ok, kS_exc, kq_next, kq_ret, kq_brk, kq_cont, kq_exc, kq_retF, go_ok, go_exc, go_next, go_ret, go_brk, go_cont, go_excS, go_retF, go_some, go_v, getV_fz, go_c, go_bin, go_bin1, go_bin2, go_un, go_un1, go_tru, go_tru1, go_bl, go_bl1, go_and, go_andT, go_andF, go_or, go_orT, go_orF, go_not, go_not1, go_andV, go_orV, go_andV1, go_orV1, go_andVT, go_andVF, go_orVT, go_orVF, go_notV, go_notV1, go_notV2, go_if, go_ifT, go_ifF, go_nil, go_cons, go_cons1, go_cons2, go_chk, go_lst, go_tup, go_lst1, go_tup1, go_cal, go_cal1, go_isi, go_isi1, go_seq, go_sRet, go_ret1, go_sExpr, go_ex1, go_sIf, go_sifT, go_sifF, go_optS, go_sAsg, go_asg1, go_sSet, go_set1, go_sPar, go_par1, go_sAug, go_augV, kN_eq, kNil_eq, kCons_eq, kT_eq, rdE_eq, rdO_fz, rdO_ol, ownE_eq, owO_ol, go_binL, go_binL1, go_binL2, oSw_eq, go_binR, go_binR1, go_sPut, go_put1, go_putO, go_put2, go_putP, go_putN, go_retF1, go_fLst, go_fl1, go_sOwn, go_own1, go_call, go_call1, kFR_ok, kFR_exc, go_callIo, go_io0, go_io1, go_io2, kIo_ok, kIo_exc, go_callN, go_calln1, go_calln2, go_okF, go_excF, kRun_next, kRun_ret, kRun_exc, finF_none, finF_some, finS_ol, go_finO, go_finX, go_items, go_items_lst, go_items_tup, go_rng1, go_rng1_ok, go_rng2, go_rng2_ok, go_zip, go_zip_l, go_zip_t, go_enum, go_enum_l, go_sFor, go_for1, kLoop_next, kLoop_cont, kLoop_brk, kLoop_ret, kLoop_exc, turn_next, turn_cont, go_lc, go_lc1, kLc_ok, elem_ok, go_yes, go_sl, go_sl1, go_sl2, go_sl3, go_noP, go_p, go_p1, go_rev, go_rev1, go_chain, go_ch1, go_ch2, go_ch3T, go_ch3F, go_ch4, go_dic, go_dic1, go_prs_nil, go_prs, go_prs1, go_prs2, go_prs3, go_prs4, kW_ok, go_fcall, go_fcall1, kRunW_ok, go_okW, go_cf, go_cf1, oAdd_int, oAdd_bl, atI_0, atI_1, atI_2, atI_3, ixN_0, ixN_1, ixN_2, sz_lit, List.getElem?_cons_zero, List.getElem?_cons_succ, List.set_cons_zero, List.set_cons_succ, List.nil_append, List.cons_append, List.append_nil, List.length_cons, List.length_nil, Nat.reduceSub, Nat.reduceLeDiff, Nat.zero_add, Option.bind_some, Option.map_some, reduceCtorEq, Int.reduceLT, Int.reduceLE, Int.reduceNeg, Int.reducePow, Int.reduceToNat, and_true, true_and, and_self, ite_true, ite_false, if_true, if_false, Bool.not_true, Bool.not_false, Bool.true_and, Bool.false_and, Bool.and_true, Bool.and_false, Bool.true_or, Bool.false_or, oSub, oNeg, oLt, oLe, oGt, oGe, oIs, oIsNot, Vs.isNon, oTru, oBl, oIx, oLen, oAbs, oIntC, oMax2, oMin2, oTupC, oLstC, oSl, keyD, decide_true, decide_false, plainE, fzE, gIx, List.filterMap_cons, List.filterMap_nil, wipeE, restE, List.all_cons, List.all_nil, List.getD_eq_getElem?_getD, Option.getD_some, oMod_ok, oFdiv_ok, oPow_lit, oMul_lit, oRepr_bl, oEq_str, oNe_str, oEq_int, oNe_int, oEq_bl, oNe_bl, oEq_nil, oNe_nil, oIsi_int, oIsi_bool, oIsi_listed, str_beq]
  | true =>
    obtain ⟨ns, rfl⟩ := ints_of_all hA
    simp only [k_ok, k_exc, kS_ok, kS_exc, kq_next, kq_ret, kq_brk, kq_cont, kq_exc, kq_retF, go_ok, go_exc, go_next, go_ret, go_brk, go_cont, go_excS, go_retF, go_some, go_v, getV_fz, go_c, go_bin, go_bin1, go_bin2, go_un, go_un1, go_tru, go_tru1, go_bl, go_bl1, go_and, go_andT, go_andF, go_or, go_orT, go_orF, go_not, go_not1, go_andV, go_orV, go_andV1, go_orV1, go_andVT, go_andVF, go_orVT, go_orVF, go_notV, go_notV1, go_notV2, go_if, go_ifT, go_ifF, go_nil, go_cons, go_cons1, go_cons2, go_chk, go_lst, go_tup, go_lst1, go_tup1, go_cal, go_cal1, go_isi, go_isi1, go_seq, go_sRet, go_ret1, go_sExpr, go_ex1, go_sIf, go_sifT, go_sifF, go_optS, go_sAsg, go_asg1, go_sSet, go_set1, go_sPar, go_par1, go_sAug, go_augV, kN_eq, kNil_eq, kCons_eq, kT_eq, rdE_eq, rdO_fz, rdO_ol, ownE_eq, owO_ol, go_binL, go_binL1, go_binL2, oSw_eq, go_binR, go_binR1, go_sPut, go_put1, go_putO, go_put2, go_putP, go_putN, go_retF1, go_fLst, go_fl1, go_sOwn, go_own1, go_call, go_call1, kFR_ok, kFR_exc, go_callIo, go_io0, go_io1, go_io2, kIo_ok, kIo_exc, go_callN, go_calln1, go_calln2, go_okF, go_excF, kRun_next, kRun_ret, kRun_exc, finF_none, finF_some, finS_ol, go_finO, go_finX, go_items, go_items_lst, go_items_tup, go_rng1, go_rng1_ok, go_rng2, go_rng2_ok, go_zip, go_zip_l, go_zip_t, go_enum, go_enum_l, go_sFor, go_for1, kLoop_next, kLoop_cont, kLoop_brk, kLoop_ret, kLoop_exc, turn_next, turn_cont, go_lc, go_lc1, kLc_ok, elem_ok, go_yes, go_sl, go_sl1, go_sl2, go_sl3, go_noP, go_p, go_p1, go_rev, go_rev1, go_chain, go_ch1, go_ch2, go_ch3T, go_ch3F, go_ch4, go_dic, go_dic1, go_prs_nil, go_prs, go_prs1, go_prs2, go_prs3, go_prs4, kW_ok, go_fcall, go_fcall1, kRunW_ok, go_okW, go_cf, go_cf1, oAdd_int, oAdd_bl, atI_0, atI_1, atI_2, atI_3, ixN_0, ixN_1, ixN_2, sz_lit, List.getElem?_cons_zero, List.getElem?_cons_succ, List.set_cons_zero, List.set_cons_succ, List.nil_append, List.cons_append, List.append_nil, List.length_cons, List.length_nil, Nat.reduceSub, Nat.reduceLeDiff, Nat.zero_add, Option.bind_some, Option.map_some, reduceCtorEq, Int.reduceLT, Int.reduceLE, Int.reduceNeg, Int.reducePow, Int.reduceToNat, and_true, true_and, and_self, ite_true, ite_false, if_true, if_false, Bool.not_true, Bool.not_false, Bool.true_and, Bool.false_and, Bool.and_true, Bool.and_false, Bool.true_or, Bool.false_or, oSub, oNeg, oLt, oLe, oGt, oGe, oIs, oIsNot, Vs.isNon, oTru, oBl, oIx, oLen, oAbs, oIntC, oMax2, oMin2, oTupC, oLstC, oSl, keyD, decide_true, decide_false, plainE, fzE, gIx, List.filterMap_cons, List.filterMap_nil, wipeE, restE, List.all_cons, List.all_nil, List.getD_eq_getElem?_getD, Option.getD_some, oMod_ok, oFdiv_ok, oPow_lit, oMul_lit, oRepr_bl, oEq_str, oNe_str, oEq_int, oNe_int, oEq_bl, oNe_bl, oEq_nil, oNe_nil, oIsi_int, oIsi_bool, oIsi_listed, str_beq, b_is_lot_1, cutD_tail]
    refine go_pairC ltF (fun _ _ => rfl) (fun d hd => ?_) ?_
    · obtain ⟨a, b, rfl⟩ := zip_ints ns d hd
      refine ⟨_, _, rfl, ?_⟩
      simp only [k_ok, k_exc, kS_ok, kS_exc, kq_next, kq_ret, kq_brk, kq_cont, kq_exc, kq_retF, go_ok, go_exc, go_next, go_ret, go_brk, go_cont, go_excS, go_retF, go_some, go_v, getV_fz, go_c, go_bin, go_bin1, go_bin2, go_un, go_un1, go_tru, go_tru1, go_bl, go_bl1, go_and, go_andT, go_andF, go_or, go_orT, go_orF, go_not, go_not1, go_andV, go_orV, go_andV1, go_orV1, go_andVT, go_andVF, go_orVT, go_orVF, go_notV, go_notV1, go_notV2, go_if, go_ifT, go_ifF, go_nil, go_cons, go_cons1, go_cons2, go_chk, go_lst, go_tup, go_lst1, go_tup1, go_cal, go_cal1, go_isi, go_isi1, go_seq, go_sRet, go_ret1, go_sExpr, go_ex1, go_sIf, go_sifT, go_sifF, go_optS, go_sAsg, go_asg1, go_sSet, go_set1, go_sPar, go_par1, go_sAug, go_augV, kN_eq, kNil_eq, kCons_eq, kT_eq, rdE_eq, rdO_fz, rdO_ol, ownE_eq, owO_ol, go_binL, go_binL1, go_binL2, oSw_eq, go_binR, go_binR1, go_sPut, go_put1, go_putO, go_put2, go_putP, go_putN, go_retF1, go_fLst, go_fl1, go_sOwn, go_own1, go_call, go_call1, kFR_ok, kFR_exc, go_callIo, go_io0, go_io1, go_io2, kIo_ok, kIo_exc, go_callN, go_calln1, go_calln2, go_okF, go_excF, kRun_next, kRun_ret, kRun_exc, finF_none, finF_some, finS_ol, go_finO, go_finX, go_items, go_items_lst, go_items_tup, go_rng1, go_rng1_ok, go_rng2, go_rng2_ok, go_zip, go_zip_l, go_zip_t, go_enum, go_enum_l, go_sFor, go_for1, kLoop_next, kLoop_cont, kLoop_brk, kLoop_ret, kLoop_exc, turn_next, turn_cont, go_lc, go_lc1, kLc_ok, elem_ok, go_yes, go_sl, go_sl1, go_sl2, go_sl3, go_noP, go_p, go_p1, go_rev, go_rev1, go_chain, go_ch1, go_ch2, go_ch3T, go_ch3F, go_ch4, go_dic, go_dic1, go_prs_nil, go_prs, go_prs1, go_prs2, go_prs3, go_prs4, kW_ok, go_fcall, go_fcall1, kRunW_ok, go_okW, go_cf, go_cf1, oAdd_int, oAdd_bl, atI_0, atI_1, atI_2, atI_3, ixN_0, ixN_1, ixN_2, sz_lit, List.getElem?_cons_zero, List.getElem?_cons_succ, List.set_cons_zero, List.set_cons_succ, List.nil_append, List.cons_append, List.append_nil, List.length_cons, List.length_nil, Nat.reduceSub, Nat.reduceLeDiff, Nat.zero_add, Option.bind_some, Option.map_some, reduceCtorEq, Int.reduceLT, Int.reduceLE, Int.reduceNeg, Int.reducePow, Int.reduceToNat, and_true, true_and, and_self, ite_true, ite_false, if_true, if_false, Bool.not_true, Bool.not_false, Bool.true_and, Bool.false_and, Bool.and_true, Bool.and_false, Bool.true_or, Bool.false_or, oSub, oNeg, oLt, oLe, oGt, oGe, oIs, oIsNot, Vs.isNon, oTru, oBl, oIx, oLen, oAbs, oIntC, oMax2, oMin2, oTupC, oLstC, oSl, keyD, decide_true, decide_false, plainE, fzE, gIx, List.filterMap_cons, List.filterMap_nil, wipeE, restE, List.all_cons, List.all_nil, List.getD_eq_getElem?_getD, Option.getD_some, oMod_ok, oFdiv_ok, oPow_lit, oMul_lit, oRepr_bl, oEq_str, oNe_str, oEq_int, oNe_int, oEq_bl, oNe_bl, oEq_nil, oNe_nil, oIsi_int, oIsi_bool, oIsi_listed, str_beq, ltF]
    rw [kLc_ok (by rw [List.length_map]; exact small_sz (Nat.le_trans (zip_len _ _) hd)), zip_pair]
    simp only [k_ok, k_exc, kS_ok, kS_exc, kq_next, kq_ret, kq_brk, kq_cont, kq_exc, kq_retF, go_ok, go_exc, go_next, go_ret, go_brk, go_cont, go_excS, go_retF, go_some, go_v, getV_fz, go_c, go_bin, go_bin1, go_bin2, go_un, go_un1, go_tru, go_tru1, go_bl, go_bl1, go_and, go_andT, go_andF, go_or, go_orT, go_orF, go_not, go_not1, go_andV, go_orV, go_andV1, go_orV1, go_andVT, go_andVF, go_orVT, go_orVF, go_notV, go_notV1, go_notV2, go_if, go_ifT, go_ifF, go_nil, go_cons, go_cons1, go_cons2, go_chk, go_lst, go_tup, go_lst1, go_tup1, go_cal, go_cal1, go_isi, go_isi1, go_seq, go_sRet, go_ret1, go_sExpr, go_ex1, go_sIf, go_sifT, go_sifF, go_optS, go_sAsg, go_asg1, go_sSet, go_set1, go_sPar, go_par1, go_sAug, go_augV, kN_eq, kNil_eq, kCons_eq, kT_eq, rdE_eq, rdO_fz, rdO_ol, ownE_eq, owO_ol, go_binL, go_binL1, go_binL2, oSw_eq, go_binR, go_binR1, go_sPut, go_put1, go_putO, go_put2, go_putP, go_putN, go_retF1, go_fLst, go_fl1, go_sOwn, go_own1, go_call, go_call1, kFR_ok, kFR_exc, go_callIo, go_io0, go_io1, go_io2, kIo_ok, kIo_exc, go_callN, go_calln1, go_calln2, go_okF, go_excF, kRun_next, kRun_ret, kRun_exc, finF_none, finF_some, finS_ol, go_finO, go_finX, go_items, go_items_lst, go_items_tup, go_rng1, go_rng1_ok, go_rng2, go_rng2_ok, go_zip, go_zip_l, go_zip_t, go_enum, go_enum_l, go_sFor, go_for1, kLoop_next, kLoop_cont, kLoop_brk, kLoop_ret, kLoop_exc, turn_next, turn_cont, go_lc, go_lc1, kLc_ok, elem_ok, go_yes, go_sl, go_sl1, go_sl2, go_sl3, go_noP, go_p, go_p1, go_rev, go_rev1, go_chain, go_ch1, go_ch2, go_ch3T, go_ch3F, go_ch4, go_dic, go_dic1, go_prs_nil, go_prs, go_prs1, go_prs2, go_prs3, go_prs4, kW_ok, go_fcall, go_fcall1, kRunW_ok, go_okW, go_cf, go_cf1, oAdd_int, oAdd_bl, atI_0, atI_1, atI_2, atI_3, ixN_0, ixN_1, ixN_2, sz_lit, List.getElem?_cons_zero, List.getElem?_cons_succ, List.set_cons_zero, List.set_cons_succ, List.nil_append, List.cons_append, List.append_nil, List.length_cons, List.length_nil, Nat.reduceSub, Nat.reduceLeDiff, Nat.zero_add, Option.bind_some, Option.map_some, reduceCtorEq, Int.reduceLT, Int.reduceLE, Int.reduceNeg, Int.reducePow, Int.reduceToNat, and_true, true_and, and_self, ite_true, ite_false, if_true, if_false, Bool.not_true, Bool.not_false, Bool.true_and, Bool.false_and, Bool.and_true, Bool.and_false, Bool.true_or, Bool.false_or, oSub, oNeg, oLt, oLe, oGt, oGe, oIs, oIsNot, Vs.isNon, oTru, oBl, oIx, oLen, oAbs, oIntC, oMax2, oMin2, oTupC, oLstC, oSl, keyD, decide_true, decide_false, plainE, fzE, gIx, List.filterMap_cons, List.filterMap_nil, wipeE, restE, List.all_cons, List.all_nil, List.getD_eq_getElem?_getD, Option.getD_some, oMod_ok, oFdiv_ok, oPow_lit, oMul_lit, oRepr_bl, oEq_str, oNe_str, oEq_int, oNe_int, oEq_bl, oNe_bl, oEq_nil, oNe_nil, oIsi_int, oIsi_bool, oIsi_listed, str_beq, oAll_map])
theorem v_is_lot (d : D) (m : Int) (hd : Fine d) : F_is_lot none [d, .int m] = .ok (.bl (lotD d m)) none := by
  cases d with
  | lst xs => exact v_lot_lst xs m hd
  | tup xs => exact v_lot_tup xs m hd
  | scr ns => exact hd.elim
  | _ => exact of_go (by
      rw [run_is_lot]; unfold b_is_lot
      simp only [k_ok, k_exc, kS_ok, kS_exc, kq_next, kq_ret, kq_brk, kq_cont, kq_exc, kq_retF, go_ok, go_exc, go_next, go_ret, go_brk, go_cont, go_excS, go_retF, go_some, go_v, getV_fz, go_c, go_bin, go_bin1, go_bin2, go_un, go_un1, go_tru, go_tru1, go_bl, go_bl1, go_and, go_andT, go_andF, go_or, go_orT, go_orF, go_not, go_not1, go_andV, go_orV, go_andV1, go_orV1, go_andVT, go_andVF, go_orVT, go_orVF, go_notV, go_notV1, go_notV2, go_if, go_ifT, go_ifF, go_nil, go_cons, go_cons1, go_cons2, go_chk, go_lst, go_tup, go_lst1, go_tup1, go_cal, go_cal1, go_isi, go_isi1, go_seq, go_sRet, go_ret1, go_sExpr, go_ex1, go_sIf, go_sifT, go_sifF, go_optS, go_sAsg, go_asg1, go_sSet, go_set1, go_sPar, go_par1, go_sAug, go_augV, kN_eq, kNil_eq, kCons_eq, kT_eq, rdE_eq, rdO_fz, rdO_ol, ownE_eq, owO_ol, go_binL, go_binL1, go_binL2, oSw_eq, go_binR, go_binR1, go_sPut, go_put1, go_putO, go_put2, go_putP, go_putN, go_retF1, go_fLst, go_fl1, go_sOwn, go_own1, go_call, go_call1, kFR_ok, kFR_exc, go_callIo, go_io0, go_io1, go_io2, kIo_ok, kIo_exc, go_callN, go_calln1, go_calln2, go_okF, go_excF, kRun_next, kRun_ret, kRun_exc, finF_none, finF_some, finS_ol, go_finO, go_finX, go_items, go_items_lst, go_items_tup, go_rng1, go_rng1_ok, go_rng2, go_rng2_ok, go_zip, go_zip_l, go_zip_t, go_enum, go_enum_l, go_sFor, go_for1, kLoop_next, kLoop_cont, kLoop_brk, kLoop_ret, kLoop_exc, turn_next, turn_cont, go_lc, go_lc1, kLc_ok, elem_ok, go_yes, go_sl, go_sl1, go_sl2, go_sl3, go_noP, go_p, go_p1, go_rev, go_rev1, go_chain, go_ch1, go_ch2, go_ch3T, go_ch3F, go_ch4, go_dic, go_dic1, go_prs_nil, go_prs, go_prs1, go_prs2, go_prs3, go_prs4, kW_ok, go_fcall, go_fcall1, kRunW_ok, go_okW, go_cf, go_cf1, oAdd_int, oAdd_bl, atI_0, atI_1, atI_2, atI_3, ixN_0, ixN_1, ixN_2, sz_lit, List.getElem?_cons_zero, List.getElem?_cons_succ, List.set_cons_zero, List.set_cons_succ, List.nil_append, List.cons_append, List.append_nil, List.length_cons, List.length_nil, Nat.reduceSub, Nat.reduceLeDiff, Nat.zero_add, Option.bind_some, Option.map_some, reduceCtorEq, Int.reduceLT, Int.reduceLE, Int.reduceNeg, Int.reducePow, Int.reduceToNat, and_true, true_and, and_self, ite_true, ite_false, if_true, if_false, Bool.not_true, Bool.not_false, Bool.true_and, Bool.false_and, Bool.and_true, Bool.and_false, Bool.true_or, Bool.false_or, oSub, oNeg, oLt, oLe, oGt, oGe, oIs, oIsNot, Vs.isNon, oTru, oBl, oIx, oLen, oAbs, oIntC, oMax2, oMin2, oTupC, oLstC, oSl, keyD, decide_true, decide_false, plainE, fzE, gIx, List.filterMap_cons, List.filterMap_nil, wipeE, restE, List.all_cons, List.all_nil, List.getD_eq_getElem?_getD, Option.getD_some, oMod_ok, oFdiv_ok, oPow_lit, oMul_lit, oRepr_bl, oEq_str, oNe_str, oEq_int, oNe_int, oEq_bl, oNe_bl, oEq_nil, oNe_nil, oIsi_int, oIsi_bool, oIsi_listed, str_beq, v_is_listed, isL, lotD])
/-- found is not ascending at this place -/
def dropP (ns : List Int) : D → Bool
  | .int i => decide (ns.getD (i.toNat + 1) 0 ≤ ns.getD i.toNat 0)
  | _ => false
theorem rng_asc (ns : List Int) : ((rngD 0 ((ns.length : Int) - 1).toNat).filter (dropP ns)).isEmpty = ascI ns := by
  rw [Bool.eq_iff_iff, ascI_iff, List.isEmpty_iff, List.filter_eq_nil_iff]
  constructor
  · intro h i hi
    have h1 := h (.int (0 + (i : Int))) (by unfold rngD; exact List.mem_map.mpr ⟨i, List.mem_range.mpr (by omega), rfl⟩)
    simp only [Int.zero_add, dropP, Int.toNat_natCast, decide_eq_true_eq] at h1
    omega
  · intro h d hd
    obtain ⟨i, hi, rfl⟩ := mem_rng hd
    have h1 := h i (by omega)
    simp only [Int.zero_add, dropP, Int.toNat_natCast, decide_eq_true_eq]
    omega
def lotE (W : List D) (m w : Int) (xs : List D) : Vs.Env := [some (.ol (some 0) W), some (.fz (.int m)), some (.fz (.lst xs)), some (.fz (.int w)), none, none, none, none]
theorem lots_9 {K : FR → Prop} {n : Nat} {W W0 : List D} {m w : Int} {xs : List D} {lot : D} (h : Wl n W) (hn : n < 2 ^ 19) (hx : xs.length ≤ 500) (hl : lot = .lst xs ∨ lot = .tup xs) (hK : ∀ W', Wl (n + 1) W' → K (.ok (.bl true) (some W'))) :
    Go (kRun (some W0) K) (b__law_lots_right_9 [some (.ol (some 0) W), some (.fz (.int m)), some (.fz (.lst xs)), some (.fz (.int w)), some (.fz lot), none, none, none]) := by
  have q1 : Lim (.int 0) := trivial
  have q2 : Lim (.int (m - 1)) := trivial
  have hlot : F_is_lot none [lot, .int m] = .ok (.bl (lotL xs m)) none := by
    rcases hl with rfl | rfl
    · exact v_is_lot _ _ (show xs.length ≤ 1000 by omega)
    · exact v_is_lot _ _ (show xs.length ≤ 1000 by omega)
  have last : ∀ a, Go (kRun (some W0) K) (b__law_lots_right_12 [some (.ol (some 0) W), some (.fz (.int m)), some (.fz (.lst xs)), some (.fz (.int w)), some (.fz lot), a, none, none]) := by
    intro a
    unfold b__law_lots_right_12
    simp only [k_ok, k_exc, kS_ok, kS_exc, kq_next, kq_ret, kq_brk, kq_cont, kq_exc, kq_retF, go_ok, go_exc, go_next, go_ret, go_brk, go_cont, go_excS, go_retF, go_some, go_v, getV_fz, go_c, go_bin, go_bin1, go_bin2, go_un, go_un1, go_tru, go_tru1, go_bl, go_bl1, go_and, go_andT, go_andF, go_or, go_orT, go_orF, go_not, go_not1, go_andV, go_orV, go_andV1, go_orV1, go_andVT, go_andVF, go_orVT, go_orVF, go_notV, go_notV1, go_notV2, go_if, go_ifT, go_ifF, go_nil, go_cons, go_cons1, go_cons2, go_chk, go_lst, go_tup, go_lst1, go_tup1, go_cal, go_cal1, go_isi, go_isi1, go_seq, go_sRet, go_ret1, go_sExpr, go_ex1, go_sIf, go_sifT, go_sifF, go_optS, go_sAsg, go_asg1, go_sSet, go_set1, go_sPar, go_par1, go_sAug, go_augV, kN_eq, kNil_eq, kCons_eq, kT_eq, rdE_eq, rdO_fz, rdO_ol, ownE_eq, owO_ol, go_binL, go_binL1, go_binL2, oSw_eq, go_binR, go_binR1, go_sPut, go_put1, go_putO, go_put2, go_putP, go_putN, go_retF1, go_fLst, go_fl1, go_sOwn, go_own1, go_call, go_call1, kFR_ok, kFR_exc, go_callIo, go_io0, go_io1, go_io2, kIo_ok, kIo_exc, go_callN, go_calln1, go_calln2, go_okF, go_excF, kRun_next, kRun_ret, kRun_exc, finF_none, finF_some, finS_ol, go_finO, go_finX, go_items, go_items_lst, go_items_tup, go_rng1, go_rng1_ok, go_rng2, go_rng2_ok, go_zip, go_zip_l, go_zip_t, go_enum, go_enum_l, go_sFor, go_for1, kLoop_next, kLoop_cont, kLoop_brk, kLoop_ret, kLoop_exc, turn_next, turn_cont, go_lc, go_lc1, kLc_ok, elem_ok, go_yes, go_sl, go_sl1, go_sl2, go_sl3, go_noP, go_p, go_p1, go_rev, go_rev1, go_chain, go_ch1, go_ch2, go_ch3T, go_ch3F, go_ch4, go_dic, go_dic1, go_prs_nil, go_prs, go_prs1, go_prs2, go_prs3, go_prs4, kW_ok, go_fcall, go_fcall1, kRunW_ok, go_okW, go_cf, go_cf1, oAdd_int, oAdd_bl, atI_0, atI_1, atI_2, atI_3, ixN_0, ixN_1, ixN_2, sz_lit, List.getElem?_cons_zero, List.getElem?_cons_succ, List.set_cons_zero, List.set_cons_succ, List.nil_append, List.cons_append, List.append_nil, List.length_cons, List.length_nil, Nat.reduceSub, Nat.reduceLeDiff, Nat.zero_add, Option.bind_some, Option.map_some, reduceCtorEq, Int.reduceLT, Int.reduceLE, Int.reduceNeg, Int.reducePow, Int.reduceToNat, and_true, true_and, and_self, ite_true, ite_false, if_true, if_false, Bool.not_true, Bool.not_false, Bool.true_and, Bool.false_and, Bool.and_true, Bool.and_false, Bool.true_or, Bool.false_or, oSub, oNeg, oLt, oLe, oGt, oGe, oIs, oIsNot, Vs.isNon, oTru, oBl, oIx, oLen, oAbs, oIntC, oMax2, oMin2, oTupC, oLstC, oSl, keyD, decide_true, decide_false, plainE, fzE, gIx, List.filterMap_cons, List.filterMap_nil, wipeE, restE, List.all_cons, List.all_nil, List.getD_eq_getElem?_getD, Option.getD_some, oMod_ok, oFdiv_ok, oPow_lit, oMul_lit, oRepr_bl, oEq_str, oNe_str, oEq_int, oNe_int, oEq_bl, oNe_bl, oEq_nil, oNe_nil, oIsi_int, oIsi_bool, oIsi_listed, str_beq]
    refine picks _ _ W _ _ (.inl rfl) h (by omega) (by simp) (by simp) fun W1 y h1 hy => ?_
    have hy2 : Fine y ∧ lotD y m = false := by
      simp only [List.mem_cons, List.not_mem_nil, or_false] at hy
      rcases hy with rfl | rfl | rfl | rfl | rfl | rfl | rfl <;> exact ⟨trivial, rfl⟩
    have e1 : F_is_lot none [.tup [], .int 0] = .ok (.bl true) none := v_is_lot _ _ (by simp [Fine])
    have e2 : F_is_row none [.lst [], .int 0, .non, .non] = .ok (.bl true) none := v_is_row _ _ _ _ trivial trivial (by simp [Fine])
    simp only [k_ok, k_exc, kS_ok, kS_exc, kq_next, kq_ret, kq_brk, kq_cont, kq_exc, kq_retF, go_ok, go_exc, go_next, go_ret, go_brk, go_cont, go_excS, go_retF, go_some, go_v, getV_fz, go_c, go_bin, go_bin1, go_bin2, go_un, go_un1, go_tru, go_tru1, go_bl, go_bl1, go_and, go_andT, go_andF, go_or, go_orT, go_orF, go_not, go_not1, go_andV, go_orV, go_andV1, go_orV1, go_andVT, go_andVF, go_orVT, go_orVF, go_notV, go_notV1, go_notV2, go_if, go_ifT, go_ifF, go_nil, go_cons, go_cons1, go_cons2, go_chk, go_lst, go_tup, go_lst1, go_tup1, go_cal, go_cal1, go_isi, go_isi1, go_seq, go_sRet, go_ret1, go_sExpr, go_ex1, go_sIf, go_sifT, go_sifF, go_optS, go_sAsg, go_asg1, go_sSet, go_set1, go_sPar, go_par1, go_sAug, go_augV, kN_eq, kNil_eq, kCons_eq, kT_eq, rdE_eq, rdO_fz, rdO_ol, ownE_eq, owO_ol, go_binL, go_binL1, go_binL2, oSw_eq, go_binR, go_binR1, go_sPut, go_put1, go_putO, go_put2, go_putP, go_putN, go_retF1, go_fLst, go_fl1, go_sOwn, go_own1, go_call, go_call1, kFR_ok, kFR_exc, go_callIo, go_io0, go_io1, go_io2, kIo_ok, kIo_exc, go_callN, go_calln1, go_calln2, go_okF, go_excF, kRun_next, kRun_ret, kRun_exc, finF_none, finF_some, finS_ol, go_finO, go_finX, go_items, go_items_lst, go_items_tup, go_rng1, go_rng1_ok, go_rng2, go_rng2_ok, go_zip, go_zip_l, go_zip_t, go_enum, go_enum_l, go_sFor, go_for1, kLoop_next, kLoop_cont, kLoop_brk, kLoop_ret, kLoop_exc, turn_next, turn_cont, go_lc, go_lc1, kLc_ok, elem_ok, go_yes, go_sl, go_sl1, go_sl2, go_sl3, go_noP, go_p, go_p1, go_rev, go_rev1, go_chain, go_ch1, go_ch2, go_ch3T, go_ch3F, go_ch4, go_dic, go_dic1, go_prs_nil, go_prs, go_prs1, go_prs2, go_prs3, go_prs4, kW_ok, go_fcall, go_fcall1, kRunW_ok, go_okW, go_cf, go_cf1, oAdd_int, oAdd_bl, atI_0, atI_1, atI_2, atI_3, ixN_0, ixN_1, ixN_2, sz_lit, List.getElem?_cons_zero, List.getElem?_cons_succ, List.set_cons_zero, List.set_cons_succ, List.nil_append, List.cons_append, List.append_nil, List.length_cons, List.length_nil, Nat.reduceSub, Nat.reduceLeDiff, Nat.zero_add, Option.bind_some, Option.map_some, reduceCtorEq, Int.reduceLT, Int.reduceLE, Int.reduceNeg, Int.reducePow, Int.reduceToNat, and_true, true_and, and_self, ite_true, ite_false, if_true, if_false, Bool.not_true, Bool.not_false, Bool.true_and, Bool.false_and, Bool.and_true, Bool.and_false, Bool.true_or, Bool.false_or, oSub, oNeg, oLt, oLe, oGt, oGe, oIs, oIsNot, Vs.isNon, oTru, oBl, oIx, oLen, oAbs, oIntC, oMax2, oMin2, oTupC, oLstC, oSl, keyD, decide_true, decide_false, plainE, fzE, gIx, List.filterMap_cons, List.filterMap_nil, wipeE, restE, List.all_cons, List.all_nil, List.getD_eq_getElem?_getD, Option.getD_some, oMod_ok, oFdiv_ok, oPow_lit, oMul_lit, oRepr_bl, oEq_str, oNe_str, oEq_int, oNe_int, oEq_bl, oNe_bl, oEq_nil, oNe_nil, oIsi_int, oIsi_bool, oIsi_listed, str_beq, v_is_lot y m hy2.1, hy2.2, e1, e2]
    exact hK _ h1
  unfold b__law_lots_right_9
  simp only [k_ok, k_exc, kS_ok, kS_exc, kq_next, kq_ret, kq_brk, kq_cont, kq_exc, kq_retF, go_ok, go_exc, go_next, go_ret, go_brk, go_cont, go_excS, go_retF, go_some, go_v, getV_fz, go_c, go_bin, go_bin1, go_bin2, go_un, go_un1, go_tru, go_tru1, go_bl, go_bl1, go_and, go_andT, go_andF, go_or, go_orT, go_orF, go_not, go_not1, go_andV, go_orV, go_andV1, go_orV1, go_andVT, go_andVF, go_orVT, go_orVF, go_notV, go_notV1, go_notV2, go_if, go_ifT, go_ifF, go_nil, go_cons, go_cons1, go_cons2, go_chk, go_lst, go_tup, go_lst1, go_tup1, go_cal, go_cal1, go_isi, go_isi1, go_seq, go_sRet, go_ret1, go_sExpr, go_ex1, go_sIf, go_sifT, go_sifF, go_optS, go_sAsg, go_asg1, go_sSet, go_set1, go_sPar, go_par1, go_sAug, go_augV, kN_eq, kNil_eq, kCons_eq, kT_eq, rdE_eq, rdO_fz, rdO_ol, ownE_eq, owO_ol, go_binL, go_binL1, go_binL2, oSw_eq, go_binR, go_binR1, go_sPut, go_put1, go_putO, go_put2, go_putP, go_putN, go_retF1, go_fLst, go_fl1, go_sOwn, go_own1, go_call, go_call1, kFR_ok, kFR_exc, go_callIo, go_io0, go_io1, go_io2, kIo_ok, kIo_exc, go_callN, go_calln1, go_calln2, go_okF, go_excF, kRun_next, kRun_ret, kRun_exc, finF_none, finF_some, finS_ol, go_finO, go_finX, go_items, go_items_lst, go_items_tup, go_rng1, go_rng1_ok, go_rng2, go_rng2_ok, go_zip, go_zip_l, go_zip_t, go_enum, go_enum_l, go_sFor, go_for1, kLoop_next, kLoop_cont, kLoop_brk, kLoop_ret, kLoop_exc, turn_next, turn_cont, go_lc, go_lc1, kLc_ok, elem_ok, go_yes, go_sl, go_sl1, go_sl2, go_sl3, go_noP, go_p, go_p1, go_rev, go_rev1, go_chain, go_ch1, go_ch2, go_ch3T, go_ch3F, go_ch4, go_dic, go_dic1, go_prs_nil, go_prs, go_prs1, go_prs2, go_prs3, go_prs4, kW_ok, go_fcall, go_fcall1, kRunW_ok, go_okW, go_cf, go_cf1, oAdd_int, oAdd_bl, atI_0, atI_1, atI_2, atI_3, ixN_0, ixN_1, ixN_2, sz_lit, List.getElem?_cons_zero, List.getElem?_cons_succ, List.set_cons_zero, List.set_cons_succ, List.nil_append, List.cons_append, List.append_nil, List.length_cons, List.length_nil, Nat.reduceSub, Nat.reduceLeDiff, Nat.zero_add, Option.bind_some, Option.map_some, reduceCtorEq, Int.reduceLT, Int.reduceLE, Int.reduceNeg, Int.reducePow, Int.reduceToNat, and_true, true_and, and_self, ite_true, ite_false, if_true, if_false, Bool.not_true, Bool.not_false, Bool.true_and, Bool.false_and, Bool.and_true, Bool.and_false, Bool.true_or, Bool.false_or, oSub, oNeg, oLt, oLe, oGt, oGe, oIs, oIsNot, Vs.isNon, oTru, oBl, oIx, oLen, oAbs, oIntC, oMax2, oMin2, oTupC, oLstC, oSl, keyD, decide_true, decide_false, plainE, fzE, gIx, List.filterMap_cons, List.filterMap_nil, wipeE, restE, List.all_cons, List.all_nil, List.getD_eq_getElem?_getD, Option.getD_some, oMod_ok, oFdiv_ok, oPow_lit, oMul_lit, oRepr_bl, oEq_str, oNe_str, oEq_int, oNe_int, oEq_bl, oNe_bl, oEq_nil, oNe_nil, oIsi_int, oIsi_bool, oIsi_listed, str_beq]
  refine go_filterC (fun d => !wth d (.int 0) (.int (m - 1))) rfl (by simp) (fun d _ => ?_) ?_
  · simp only [k_ok, k_exc, kS_ok, kS_exc, kq_next, kq_ret, kq_brk, kq_cont, kq_exc, kq_retF, go_ok, go_exc, go_next, go_ret, go_brk, go_cont, go_excS, go_retF, go_some, go_v, getV_fz, go_c, go_bin, go_bin1, go_bin2, go_un, go_un1, go_tru, go_tru1, go_bl, go_bl1, go_and, go_andT, go_andF, go_or, go_orT, go_orF, go_not, go_not1, go_andV, go_orV, go_andV1, go_orV1, go_andVT, go_andVF, go_orVT, go_orVF, go_notV, go_notV1, go_notV2, go_if, go_ifT, go_ifF, go_nil, go_cons, go_cons1, go_cons2, go_chk, go_lst, go_tup, go_lst1, go_tup1, go_cal, go_cal1, go_isi, go_isi1, go_seq, go_sRet, go_ret1, go_sExpr, go_ex1, go_sIf, go_sifT, go_sifF, go_optS, go_sAsg, go_asg1, go_sSet, go_set1, go_sPar, go_par1, go_sAug, go_augV, kN_eq, kNil_eq, kCons_eq, kT_eq, rdE_eq, rdO_fz, rdO_ol, ownE_eq, owO_ol, go_binL, go_binL1, go_binL2, oSw_eq, go_binR, go_binR1, go_sPut, go_put1, go_putO, go_put2, go_putP, go_putN, go_retF1, go_fLst, go_fl1, go_sOwn, go_own1, go_call, go_call1, kFR_ok, kFR_exc, go_callIo, go_io0, go_io1, go_io2, kIo_ok, kIo_exc, go_callN, go_calln1, go_calln2, go_okF, go_excF, kRun_next, kRun_ret, kRun_exc, finF_none, finF_some, finS_ol, go_finO, go_finX, go_items, go_items_lst, go_items_tup, go_rng1, go_rng1_ok, go_rng2, go_rng2_ok, go_zip, go_zip_l, go_zip_t, go_enum, go_enum_l, go_sFor, go_for1, kLoop_next, kLoop_cont, kLoop_brk, kLoop_ret, kLoop_exc, turn_next, turn_cont, go_lc, go_lc1, kLc_ok, elem_ok, go_yes, go_sl, go_sl1, go_sl2, go_sl3, go_noP, go_p, go_p1, go_rev, go_rev1, go_chain, go_ch1, go_ch2, go_ch3T, go_ch3F, go_ch4, go_dic, go_dic1, go_prs_nil, go_prs, go_prs1, go_prs2, go_prs3, go_prs4, kW_ok, go_fcall, go_fcall1, kRunW_ok, go_okW, go_cf, go_cf1, oAdd_int, oAdd_bl, atI_0, atI_1, atI_2, atI_3, ixN_0, ixN_1, ixN_2, sz_lit, List.getElem?_cons_zero, List.getElem?_cons_succ, List.set_cons_zero, List.set_cons_succ, List.nil_append, List.cons_append, List.append_nil, List.length_cons, List.length_nil, Nat.reduceSub, Nat.reduceLeDiff, Nat.zero_add, Option.bind_some, Option.map_some, reduceCtorEq, Int.reduceLT, Int.reduceLE, Int.reduceNeg, Int.reducePow, Int.reduceToNat, and_true, true_and, and_self, ite_true, ite_false, if_true, if_false, Bool.not_true, Bool.not_false, Bool.true_and, Bool.false_and, Bool.and_true, Bool.and_false, Bool.true_or, Bool.false_or, oSub, oNeg, oLt, oLe, oGt, oGe, oIs, oIsNot, Vs.isNon, oTru, oBl, oIx, oLen, oAbs, oIntC, oMax2, oMin2, oTupC, oLstC, oSl, keyD, decide_true, decide_false, plainE, fzE, gIx, List.filterMap_cons, List.filterMap_nil, wipeE, restE, List.all_cons, List.all_nil, List.getD_eq_getElem?_getD, Option.getD_some, oMod_ok, oFdiv_ok, oPow_lit, oMul_lit, oRepr_bl, oEq_str, oNe_str, oEq_int, oNe_int, oEq_bl, oNe_bl, oEq_nil, oNe_nil, oIsi_int, oIsi_bool, oIsi_listed, str_beq, v_fits _ _ _ q1 q2]
  rw [kLc_ok (filter_len (by omega))]
  simp only [k_ok, k_exc, kS_ok, kS_exc, kq_next, kq_ret, kq_brk, kq_cont, kq_exc, kq_retF, go_ok, go_exc, go_next, go_ret, go_brk, go_cont, go_excS, go_retF, go_some, go_v, getV_fz, go_c, go_bin, go_bin1, go_bin2, go_un, go_un1, go_tru, go_tru1, go_bl, go_bl1, go_and, go_andT, go_andF, go_or, go_orT, go_orF, go_not, go_not1, go_andV, go_orV, go_andV1, go_orV1, go_andVT, go_andVF, go_orVT, go_orVF, go_notV, go_notV1, go_notV2, go_if, go_ifT, go_ifF, go_nil, go_cons, go_cons1, go_cons2, go_chk, go_lst, go_tup, go_lst1, go_tup1, go_cal, go_cal1, go_isi, go_isi1, go_seq, go_sRet, go_ret1, go_sExpr, go_ex1, go_sIf, go_sifT, go_sifF, go_optS, go_sAsg, go_asg1, go_sSet, go_set1, go_sPar, go_par1, go_sAug, go_augV, kN_eq, kNil_eq, kCons_eq, kT_eq, rdE_eq, rdO_fz, rdO_ol, ownE_eq, owO_ol, go_binL, go_binL1, go_binL2, oSw_eq, go_binR, go_binR1, go_sPut, go_put1, go_putO, go_put2, go_putP, go_putN, go_retF1, go_fLst, go_fl1, go_sOwn, go_own1, go_call, go_call1, kFR_ok, kFR_exc, go_callIo, go_io0, go_io1, go_io2, kIo_ok, kIo_exc, go_callN, go_calln1, go_calln2, go_okF, go_excF, kRun_next, kRun_ret, kRun_exc, finF_none, finF_some, finS_ol, go_finO, go_finX, go_items, go_items_lst, go_items_tup, go_rng1, go_rng1_ok, go_rng2, go_rng2_ok, go_zip, go_zip_l, go_zip_t, go_enum, go_enum_l, go_sFor, go_for1, kLoop_next, kLoop_cont, kLoop_brk, kLoop_ret, kLoop_exc, turn_next, turn_cont, go_lc, go_lc1, kLc_ok, elem_ok, go_yes, go_sl, go_sl1, go_sl2, go_sl3, go_noP, go_p, go_p1, go_rev, go_rev1, go_chain, go_ch1, go_ch2, go_ch3T, go_ch3F, go_ch4, go_dic, go_dic1, go_prs_nil, go_prs, go_prs1, go_prs2, go_prs3, go_prs4, kW_ok, go_fcall, go_fcall1, kRunW_ok, go_okW, go_cf, go_cf1, oAdd_int, oAdd_bl, atI_0, atI_1, atI_2, atI_3, ixN_0, ixN_1, ixN_2, sz_lit, List.getElem?_cons_zero, List.getElem?_cons_succ, List.set_cons_zero, List.set_cons_succ, List.nil_append, List.cons_append, List.append_nil, List.length_cons, List.length_nil, Nat.reduceSub, Nat.reduceLeDiff, Nat.zero_add, Option.bind_some, Option.map_some, reduceCtorEq, Int.reduceLT, Int.reduceLE, Int.reduceNeg, Int.reducePow, Int.reduceToNat, and_true, true_and, and_self, ite_true, ite_false, if_true, if_false, Bool.not_true, Bool.not_false, Bool.true_and, Bool.false_and, Bool.and_true, Bool.and_false, Bool.true_or, Bool.false_or, oSub, oNeg, oLt, oLe, oGt, oGe, oIs, oIsNot, Vs.isNon, oTru, oBl, oIx, oLen, oAbs, oIntC, oMax2, oMin2, oTupC, oLstC, oSl, keyD, decide_true, decide_false, plainE, fzE, gIx, List.filterMap_cons, List.filterMap_nil, wipeE, restE, List.all_cons, List.all_nil, List.getD_eq_getElem?_getD, Option.getD_some, oMod_ok, oFdiv_ok, oPow_lit, oMul_lit, oRepr_bl, oEq_str, oNe_str, oEq_int, oNe_int, oEq_bl, oNe_bl, oEq_nil, oNe_nil, oIsi_int, oIsi_bool, oIsi_listed, str_beq, isEmpty_filter_not, b__law_lots_right_10]
  cases hA : xs.all (wth · (.int 0) (.int (m - 1))) with
  | false =>
    have hz : lotL xs m = false := by simp [lotL, hA]
    simp only [k_ok, k_exc, kS_ok, kS_exc, kq_next, kq_ret, kq_brk, kq_cont, kq_exc, kq_retF, go_ok, go_exc, go_next, go_ret, go_brk, go_cont, go_excS, go_retF, go_some, go_v, getV_fz, go_c, go_bin, go_bin1, go_bin2, go_un, go_un1, go_tru, go_tru1, go_bl, go_bl1, go_and, go_andT, go_andF, go_or, go_orT, go_orF, go_not, go_not1, go_andV, go_orV, go_andV1, go_orV1, go_andVT, go_andVF, go_orVT, go_orVF, go_notV, go_notV1, go_notV2, go_if, go_ifT, go_ifF, go_nil, go_cons, go_cons1, go_cons2, go_chk, go_lst, go_tup, go_lst1, go_tup1, go_cal, go_cal1, go_isi, go_isi1, go_seq, go_sRet, go_ret1, go_sExpr, go_ex1, go_sIf, go_sifT, go_sifF, go_optS, go_sAsg, go_asg1, go_sSet, go_set1, go_sPar, go_par1, go_sAug, go_augV, kN_eq, kNil_eq, kCons_eq, kT_eq, rdE_eq, rdO_fz, rdO_ol, ownE_eq, owO_ol, go_binL, go_binL1, go_binL2, oSw_eq, go_binR, go_binR1, go_sPut, go_put1, go_putO, go_put2, go_putP, go_putN, go_retF1, go_fLst, go_fl1, go_sOwn, go_own1, go_call, go_call1, kFR_ok, kFR_exc, go_callIo, go_io0, go_io1, go_io2, kIo_ok, kIo_exc, go_callN, go_calln1, go_calln2, go_okF, go_excF, kRun_next, kRun_ret, kRun_exc, finF_none, finF_some, finS_ol, go_finO, go_finX, go_items, go_items_lst, go_items_tup, go_rng1, go_rng1_ok, go_rng2, go_rng2_ok, go_zip, go_zip_l, go_zip_t, go_enum, go_enum_l, go_sFor, go_for1, kLoop_next, kLoop_cont, kLoop_brk, kLoop_ret, kLoop_exc, turn_next, turn_cont, go_lc, go_lc1, kLc_ok, elem_ok, go_yes, go_sl, go_sl1, go_sl2, go_sl3, go_noP, go_p, go_p1, go_rev, go_rev1, go_chain, go_ch1, go_ch2, go_ch3T, go_ch3F, go_ch4, go_dic, go_dic1, go_prs_nil, go_prs, go_prs1, go_prs2, go_prs3, go_prs4, kW_ok, go_fcall, go_fcall1, kRunW_ok, go_okW, go_cf, go_cf1, oAdd_int, oAdd_bl, atI_0, atI_1, atI_2, atI_3, ixN_0, ixN_1, ixN_2, sz_lit, List.getElem?_cons_zero, List.getElem?_cons_succ, List.set_cons_zero, List.set_cons_succ, List.nil_append, List.cons_append, List.append_nil, List.length_cons, List.length_nil, Nat.reduceSub, Nat.reduceLeDiff, Nat.zero_add, Option.bind_some, Option.map_some, reduceCtorEq, Int.reduceLT, Int.reduceLE, Int.reduceNeg, Int.reducePow, Int.reduceToNat, and_true, true_and, and_self, ite_true, ite_false, if_true, if_false, Bool.not_true, Bool.not_false, Bool.true_and, Bool.false_and, Bool.and_true, Bool.and_false, Bool.true_or, Bool.false_or, oSub, oNeg, oLt, oLe, oGt, oGe, oIs, oIsNot, Vs.isNon, oTru, oBl, oIx, oLen, oAbs, oIntC, oMax2, oMin2, oTupC, oLstC, oSl, keyD, decide_true, decide_false, plainE, fzE, gIx, List.filterMap_cons, List.filterMap_nil, wipeE, restE, List.all_cons, List.all_nil, List.getD_eq_getElem?_getD, Option.getD_some, oMod_ok, oFdiv_ok, oPow_lit, oMul_lit, oRepr_bl, oEq_str, oNe_str, oEq_int, oNe_int, oEq_bl, oNe_bl, oEq_nil, oNe_nil, oIsi_int, oIsi_bool, oIsi_listed, str_beq, b__law_lots_right_11, hlot, hz]
    exact last _
  | true =>
    obtain ⟨ns, rfl⟩ := ints_of_all hA
    have hz : lotL (ns.map D.int) m = ascI ns := by
      rw [← zip_asc ns]
      simp only [lotL, hA, Bool.true_and]
    rw [List.length_map] at hx
    have hr : -(2 ^ 62) ≤ (((ns.map D.int).length : Nat) : Int) - 1 ∧ (((ns.map D.int).length : Nat) : Int) - 1 < 2 ^ 62 := by rw [List.length_map]; omega
    simp only [k_ok, k_exc, kS_ok, kS_exc, kq_next, kq_ret, kq_brk, kq_cont, kq_exc, kq_retF, go_ok, go_exc, go_next, go_ret, go_brk, go_cont, go_excS, go_retF, go_some, go_v, getV_fz, go_c, go_bin, go_bin1, go_bin2, go_un, go_un1, go_tru, go_tru1, go_bl, go_bl1, go_and, go_andT, go_andF, go_or, go_orT, go_orF, go_not, go_not1, go_andV, go_orV, go_andV1, go_orV1, go_andVT, go_andVF, go_orVT, go_orVF, go_notV, go_notV1, go_notV2, go_if, go_ifT, go_ifF, go_nil, go_cons, go_cons1, go_cons2, go_chk, go_lst, go_tup, go_lst1, go_tup1, go_cal, go_cal1, go_isi, go_isi1, go_seq, go_sRet, go_ret1, go_sExpr, go_ex1, go_sIf, go_sifT, go_sifF, go_optS, go_sAsg, go_asg1, go_sSet, go_set1, go_sPar, go_par1, go_sAug, go_augV, kN_eq, kNil_eq, kCons_eq, kT_eq, rdE_eq, rdO_fz, rdO_ol, ownE_eq, owO_ol, go_binL, go_binL1, go_binL2, oSw_eq, go_binR, go_binR1, go_sPut, go_put1, go_putO, go_put2, go_putP, go_putN, go_retF1, go_fLst, go_fl1, go_sOwn, go_own1, go_call, go_call1, kFR_ok, kFR_exc, go_callIo, go_io0, go_io1, go_io2, kIo_ok, kIo_exc, go_callN, go_calln1, go_calln2, go_okF, go_excF, kRun_next, kRun_ret, kRun_exc, finF_none, finF_some, finS_ol, go_finO, go_finX, go_items, go_items_lst, go_items_tup, go_rng1, go_rng1_ok, go_rng2, go_rng2_ok, go_zip, go_zip_l, go_zip_t, go_enum, go_enum_l, go_sFor, go_for1, kLoop_next, kLoop_cont, kLoop_brk, kLoop_ret, kLoop_exc, turn_next, turn_cont, go_lc, go_lc1, kLc_ok, elem_ok, go_yes, go_sl, go_sl1, go_sl2, go_sl3, go_noP, go_p, go_p1, go_rev, go_rev1, go_chain, go_ch1, go_ch2, go_ch3T, go_ch3F, go_ch4, go_dic, go_dic1, go_prs_nil, go_prs, go_prs1, go_prs2, go_prs3, go_prs4, kW_ok, go_fcall, go_fcall1, kRunW_ok, go_okW, go_cf, go_cf1, oAdd_int, oAdd_bl, atI_0, atI_1, atI_2, atI_3, ixN_0, ixN_1, ixN_2, sz_lit, List.getElem?_cons_zero, List.getElem?_cons_succ, List.set_cons_zero, List.set_cons_succ, List.nil_append, List.cons_append, List.append_nil, List.length_cons, List.length_nil, Nat.reduceSub, Nat.reduceLeDiff, Nat.zero_add, Option.bind_some, Option.map_some, reduceCtorEq, Int.reduceLT, Int.reduceLE, Int.reduceNeg, Int.reducePow, Int.reduceToNat, and_true, true_and, and_self, ite_true, ite_false, if_true, if_false, Bool.not_true, Bool.not_false, Bool.true_and, Bool.false_and, Bool.and_true, Bool.and_false, Bool.true_or, Bool.false_or, oSub, oNeg, oLt, oLe, oGt, oGe, oIs, oIsNot, Vs.isNon, oTru, oBl, oIx, oLen, oAbs, oIntC, oMax2, oMin2, oTupC, oLstC, oSl, keyD, decide_true, decide_false, plainE, fzE, gIx, List.filterMap_cons, List.filterMap_nil, wipeE, restE, List.all_cons, List.all_nil, List.getD_eq_getElem?_getD, Option.getD_some, oMod_ok, oFdiv_ok, oPow_lit, oMul_lit, oRepr_bl, oEq_str, oNe_str, oEq_int, oNe_int, oEq_bl, oNe_bl, oEq_nil, oNe_nil, oIsi_int, oIsi_bool, oIsi_listed, str_beq, go_rng1_ok hr]
    refine go_filterC (dropP ns) rfl (by simp) (fun d hd => ?_) ?_
    · rw [List.length_map] at hd
      obtain ⟨i, hi, rfl⟩ := mem_rng hd
      have a1 : L2.atI (ns.map D.int) (0 + (i : Int)) = some (.int (ns.getD i 0)) := by rw [Int.zero_add]; exact atI_intsN (by omega)
      have a2 : L2.atI (ns.map D.int) (0 + (i : Int) + 1) = some (.int (ns.getD (i + 1) 0)) := by
        rw [Int.zero_add]; exact atI_intsN (i := i + 1) (by omega)
      have a3 : (0 + (i : Int)).toNat = i := by omega
      simp only [k_ok, k_exc, kS_ok, kS_exc, kq_next, kq_ret, kq_brk, kq_cont, kq_exc, kq_retF, go_ok, go_exc, go_next, go_ret, go_brk, go_cont, go_excS, go_retF, go_some, go_v, getV_fz, go_c, go_bin, go_bin1, go_bin2, go_un, go_un1, go_tru, go_tru1, go_bl, go_bl1, go_and, go_andT, go_andF, go_or, go_orT, go_orF, go_not, go_not1, go_andV, go_orV, go_andV1, go_orV1, go_andVT, go_andVF, go_orVT, go_orVF, go_notV, go_notV1, go_notV2, go_if, go_ifT, go_ifF, go_nil, go_cons, go_cons1, go_cons2, go_chk, go_lst, go_tup, go_lst1, go_tup1, go_cal, go_cal1, go_isi, go_isi1, go_seq, go_sRet, go_ret1, go_sExpr, go_ex1, go_sIf, go_sifT, go_sifF, go_optS, go_sAsg, go_asg1, go_sSet, go_set1, go_sPar, go_par1, go_sAug, go_augV, kN_eq, kNil_eq, kCons_eq, kT_eq, rdE_eq, rdO_fz, rdO_ol, ownE_eq, owO_ol, go_binL, go_binL1, go_binL2, oSw_eq, go_binR, go_binR1, go_sPut, go_put1, go_putO, go_put2, go_putP, go_putN, go_retF1, go_fLst, go_fl1, go_sOwn, go_own1, go_call, go_call1, kFR_ok, kFR_exc, go_callIo, go_io0, go_io1, go_io2, kIo_ok, kIo_exc, go_callN, go_calln1, go_calln2, go_okF, go_excF, kRun_next, kRun_ret, kRun_exc, finF_none, finF_some, finS_ol, go_finO, go_finX, go_items, go_items_lst, go_items_tup, go_rng1, go_rng1_ok, go_rng2, go_rng2_ok, go_zip, go_zip_l, go_zip_t, go_enum, go_enum_l, go_sFor, go_for1, kLoop_next, kLoop_cont, kLoop_brk, kLoop_ret, kLoop_exc, turn_next, turn_cont, go_lc, go_lc1, kLc_ok, elem_ok, go_yes, go_sl, go_sl1, go_sl2, go_sl3, go_noP, go_p, go_p1, go_rev, go_rev1, go_chain, go_ch1, go_ch2, go_ch3T, go_ch3F, go_ch4, go_dic, go_dic1, go_prs_nil, go_prs, go_prs1, go_prs2, go_prs3, go_prs4, kW_ok, go_fcall, go_fcall1, kRunW_ok, go_okW, go_cf, go_cf1, oAdd_int, oAdd_bl, atI_0, atI_1, atI_2, atI_3, ixN_0, ixN_1, ixN_2, sz_lit, List.getElem?_cons_zero, List.getElem?_cons_succ, List.set_cons_zero, List.set_cons_succ, List.nil_append, List.cons_append, List.append_nil, List.length_cons, List.length_nil, Nat.reduceSub, Nat.reduceLeDiff, Nat.zero_add, Option.bind_some, Option.map_some, reduceCtorEq, Int.reduceLT, Int.reduceLE, Int.reduceNeg, Int.reducePow, Int.reduceToNat, and_true, true_and, and_self, ite_true, ite_false, if_true, if_false, Bool.not_true, Bool.not_false, Bool.true_and, Bool.false_and, Bool.and_true, Bool.and_false, Bool.true_or, Bool.false_or, oSub, oNeg, oLt, oLe, oGt, oGe, oIs, oIsNot, Vs.isNon, oTru, oBl, oIx, oLen, oAbs, oIntC, oMax2, oMin2, oTupC, oLstC, oSl, keyD, decide_true, decide_false, plainE, fzE, gIx, List.filterMap_cons, List.filterMap_nil, wipeE, restE, List.all_cons, List.all_nil, List.getD_eq_getElem?_getD, Option.getD_some, oMod_ok, oFdiv_ok, oPow_lit, oMul_lit, oRepr_bl, oEq_str, oNe_str, oEq_int, oNe_int, oEq_bl, oNe_bl, oEq_nil, oNe_nil, oIsi_int, oIsi_bool, oIsi_listed, str_beq, a1, a2, dropP, a3]
    rw [kLc_ok (filter_len (by rw [rng_len, List.length_map]; omega)), List.length_map]
    simp only [k_ok, k_exc, kS_ok, kS_exc, kq_next, kq_ret, kq_brk, kq_cont, kq_exc, kq_retF, go_ok, go_exc, go_next, go_ret, go_brk, go_cont, go_excS, go_retF, go_some, go_v, getV_fz, go_c, go_bin, go_bin1, go_bin2, go_un, go_un1, go_tru, go_tru1, go_bl, go_bl1, go_and, go_andT, go_andF, go_or, go_orT, go_orF, go_not, go_not1, go_andV, go_orV, go_andV1, go_orV1, go_andVT, go_andVF, go_orVT, go_orVF, go_notV, go_notV1, go_notV2, go_if, go_ifT, go_ifF, go_nil, go_cons, go_cons1, go_cons2, go_chk, go_lst, go_tup, go_lst1, go_tup1, go_cal, go_cal1, go_isi, go_isi1, go_seq, go_sRet, go_ret1, go_sExpr, go_ex1, go_sIf, go_sifT, go_sifF, go_optS, go_sAsg, go_asg1, go_sSet, go_set1, go_sPar, go_par1, go_sAug, go_augV, kN_eq, kNil_eq, kCons_eq, kT_eq, rdE_eq, rdO_fz, rdO_ol, ownE_eq, owO_ol, go_binL, go_binL1, go_binL2, oSw_eq, go_binR, go_binR1, go_sPut, go_put1, go_putO, go_put2, go_putP, go_putN, go_retF1, go_fLst, go_fl1, go_sOwn, go_own1, go_call, go_call1, kFR_ok, kFR_exc, go_callIo, go_io0, go_io1, go_io2, kIo_ok, kIo_exc, go_callN, go_calln1, go_calln2, go_okF, go_excF, kRun_next, kRun_ret, kRun_exc, finF_none, finF_some, finS_ol, go_finO, go_finX, go_items, go_items_lst, go_items_tup, go_rng1, go_rng1_ok, go_rng2, go_rng2_ok, go_zip, go_zip_l, go_zip_t, go_enum, go_enum_l, go_sFor, go_for1, kLoop_next, kLoop_cont, kLoop_brk, kLoop_ret, kLoop_exc, turn_next, turn_cont, go_lc, go_lc1, kLc_ok, elem_ok, go_yes, go_sl, go_sl1, go_sl2, go_sl3, go_noP, go_p, go_p1, go_rev, go_rev1, go_chain, go_ch1, go_ch2, go_ch3T, go_ch3F, go_ch4, go_dic, go_dic1, go_prs_nil, go_prs, go_prs1, go_prs2, go_prs3, go_prs4, kW_ok, go_fcall, go_fcall1, kRunW_ok, go_okW, go_cf, go_cf1, oAdd_int, oAdd_bl, atI_0, atI_1, atI_2, atI_3, ixN_0, ixN_1, ixN_2, sz_lit, List.getElem?_cons_zero, List.getElem?_cons_succ, List.set_cons_zero, List.set_cons_succ, List.nil_append, List.cons_append, List.append_nil, List.length_cons, List.length_nil, Nat.reduceSub, Nat.reduceLeDiff, Nat.zero_add, Option.bind_some, Option.map_some, reduceCtorEq, Int.reduceLT, Int.reduceLE, Int.reduceNeg, Int.reducePow, Int.reduceToNat, and_true, true_and, and_self, ite_true, ite_false, if_true, if_false, Bool.not_true, Bool.not_false, Bool.true_and, Bool.false_and, Bool.and_true, Bool.and_false, Bool.true_or, Bool.false_or, oSub, oNeg, oLt, oLe, oGt, oGe, oIs, oIsNot, Vs.isNon, oTru, oBl, oIx, oLen, oAbs, oIntC, oMax2, oMin2, oTupC, oLstC, oSl, keyD, decide_true, decide_false, plainE, fzE, gIx, List.filterMap_cons, List.filterMap_nil, wipeE, restE, List.all_cons, List.all_nil, List.getD_eq_getElem?_getD, Option.getD_some, oMod_ok, oFdiv_ok, oPow_lit, oMul_lit, oRepr_bl, oEq_str, oNe_str, oEq_int, oNe_int, oEq_bl, oNe_bl, oEq_nil, oNe_nil, oIsi_int, oIsi_bool, oIsi_listed, str_beq, rng_asc, List.length_map, b__law_lots_right_11, hlot, hz]
    exact last _
theorem lots_8 {K : FR → Prop} {n : Nat} {W W0 : List D} {m w : Int} {xs : List D} (h : Wl n W) (hn : n < 2 ^ 18) (hx : xs.length ≤ 400) (hK : ∀ W', Wl (n + 2) W' → K (.ok (.bl true) (some W'))) :
    Go (kRun (some W0) K) (b__law_lots_right_8 (lotE W m w xs)) := by
  unfold b__law_lots_right_8 lotE
  simp only [k_ok, k_exc, kS_ok, kS_exc, kq_next, kq_ret, kq_brk, kq_cont, kq_exc, kq_retF, go_ok, go_exc, go_next, go_ret, go_brk, go_cont, go_excS, go_retF, go_some, go_v, getV_fz, go_c, go_bin, go_bin1, go_bin2, go_un, go_un1, go_tru, go_tru1, go_bl, go_bl1, go_and, go_andT, go_andF, go_or, go_orT, go_orF, go_not, go_not1, go_andV, go_orV, go_andV1, go_orV1, go_andVT, go_andVF, go_orVT, go_orVF, go_notV, go_notV1, go_notV2, go_if, go_ifT, go_ifF, go_nil, go_cons, go_cons1, go_cons2, go_chk, go_lst, go_tup, go_lst1, go_tup1, go_cal, go_cal1, go_isi, go_isi1, go_seq, go_sRet, go_ret1, go_sExpr, go_ex1, go_sIf, go_sifT, go_sifF, go_optS, go_sAsg, go_asg1, go_sSet, go_set1, go_sPar, go_par1, go_sAug, go_augV, kN_eq, kNil_eq, kCons_eq, kT_eq, rdE_eq, rdO_fz, rdO_ol, ownE_eq, owO_ol, go_binL, go_binL1, go_binL2, oSw_eq, go_binR, go_binR1, go_sPut, go_put1, go_putO, go_put2, go_putP, go_putN, go_retF1, go_fLst, go_fl1, go_sOwn, go_own1, go_call, go_call1, kFR_ok, kFR_exc, go_callIo, go_io0, go_io1, go_io2, kIo_ok, kIo_exc, go_callN, go_calln1, go_calln2, go_okF, go_excF, kRun_next, kRun_ret, kRun_exc, finF_none, finF_some, finS_ol, go_finO, go_finX, go_items, go_items_lst, go_items_tup, go_rng1, go_rng1_ok, go_rng2, go_rng2_ok, go_zip, go_zip_l, go_zip_t, go_enum, go_enum_l, go_sFor, go_for1, kLoop_next, kLoop_cont, kLoop_brk, kLoop_ret, kLoop_exc, turn_next, turn_cont, go_lc, go_lc1, kLc_ok, elem_ok, go_yes, go_sl, go_sl1, go_sl2, go_sl3, go_noP, go_p, go_p1, go_rev, go_rev1, go_chain, go_ch1, go_ch2, go_ch3T, go_ch3F, go_ch4, go_dic, go_dic1, go_prs_nil, go_prs, go_prs1, go_prs2, go_prs3, go_prs4, kW_ok, go_fcall, go_fcall1, kRunW_ok, go_okW, go_cf, go_cf1, oAdd_int, oAdd_bl, atI_0, atI_1, atI_2, atI_3, ixN_0, ixN_1, ixN_2, sz_lit, List.getElem?_cons_zero, List.getElem?_cons_succ, List.set_cons_zero, List.set_cons_succ, List.nil_append, List.cons_append, List.append_nil, List.length_cons, List.length_nil, Nat.reduceSub, Nat.reduceLeDiff, Nat.zero_add, Option.bind_some, Option.map_some, reduceCtorEq, Int.reduceLT, Int.reduceLE, Int.reduceNeg, Int.reducePow, Int.reduceToNat, and_true, true_and, and_self, ite_true, ite_false, if_true, if_false, Bool.not_true, Bool.not_false, Bool.true_and, Bool.false_and, Bool.and_true, Bool.and_false, Bool.true_or, Bool.false_or, oSub, oNeg, oLt, oLe, oGt, oGe, oIs, oIsNot, Vs.isNon, oTru, oBl, oIx, oLen, oAbs, oIntC, oMax2, oMin2, oTupC, oLstC, oSl, keyD, decide_true, decide_false, plainE, fzE, gIx, List.filterMap_cons, List.filterMap_nil, wipeE, restE, List.all_cons, List.all_nil, List.getD_eq_getElem?_getD, Option.getD_some, oMod_ok, oFdiv_ok, oPow_lit, oMul_lit, oRepr_bl, oEq_str, oNe_str, oEq_int, oNe_int, oEq_bl, oNe_bl, oEq_nil, oNe_nil, oIsi_int, oIsi_bool, oIsi_listed, str_beq]
  refine draws _ _ W _ h (by omega) (by omega) (by omega) fun W1 y h1 _ _ => ?_
  simp only [k_ok, k_exc, kS_ok, kS_exc, kq_next, kq_ret, kq_brk, kq_cont, kq_exc, kq_retF, go_ok, go_exc, go_next, go_ret, go_brk, go_cont, go_excS, go_retF, go_some, go_v, getV_fz, go_c, go_bin, go_bin1, go_bin2, go_un, go_un1, go_tru, go_tru1, go_bl, go_bl1, go_and, go_andT, go_andF, go_or, go_orT, go_orF, go_not, go_not1, go_andV, go_orV, go_andV1, go_orV1, go_andVT, go_andVF, go_orVT, go_orVF, go_notV, go_notV1, go_notV2, go_if, go_ifT, go_ifF, go_nil, go_cons, go_cons1, go_cons2, go_chk, go_lst, go_tup, go_lst1, go_tup1, go_cal, go_cal1, go_isi, go_isi1, go_seq, go_sRet, go_ret1, go_sExpr, go_ex1, go_sIf, go_sifT, go_sifF, go_optS, go_sAsg, go_asg1, go_sSet, go_set1, go_sPar, go_par1, go_sAug, go_augV, kN_eq, kNil_eq, kCons_eq, kT_eq, rdE_eq, rdO_fz, rdO_ol, ownE_eq, owO_ol, go_binL, go_binL1, go_binL2, oSw_eq, go_binR, go_binR1, go_sPut, go_put1, go_putO, go_put2, go_putP, go_putN, go_retF1, go_fLst, go_fl1, go_sOwn, go_own1, go_call, go_call1, kFR_ok, kFR_exc, go_callIo, go_io0, go_io1, go_io2, kIo_ok, kIo_exc, go_callN, go_calln1, go_calln2, go_okF, go_excF, kRun_next, kRun_ret, kRun_exc, finF_none, finF_some, finS_ol, go_finO, go_finX, go_items, go_items_lst, go_items_tup, go_rng1, go_rng1_ok, go_rng2, go_rng2_ok, go_zip, go_zip_l, go_zip_t, go_enum, go_enum_l, go_sFor, go_for1, kLoop_next, kLoop_cont, kLoop_brk, kLoop_ret, kLoop_exc, turn_next, turn_cont, go_lc, go_lc1, kLc_ok, elem_ok, go_yes, go_sl, go_sl1, go_sl2, go_sl3, go_noP, go_p, go_p1, go_rev, go_rev1, go_chain, go_ch1, go_ch2, go_ch3T, go_ch3F, go_ch4, go_dic, go_dic1, go_prs_nil, go_prs, go_prs1, go_prs2, go_prs3, go_prs4, kW_ok, go_fcall, go_fcall1, kRunW_ok, go_okW, go_cf, go_cf1, oAdd_int, oAdd_bl, atI_0, atI_1, atI_2, atI_3, ixN_0, ixN_1, ixN_2, sz_lit, List.getElem?_cons_zero, List.getElem?_cons_succ, List.set_cons_zero, List.set_cons_succ, List.nil_append, List.cons_append, List.append_nil, List.length_cons, List.length_nil, Nat.reduceSub, Nat.reduceLeDiff, Nat.zero_add, Option.bind_some, Option.map_some, reduceCtorEq, Int.reduceLT, Int.reduceLE, Int.reduceNeg, Int.reducePow, Int.reduceToNat, and_true, true_and, and_self, ite_true, ite_false, if_true, if_false, Bool.not_true, Bool.not_false, Bool.true_and, Bool.false_and, Bool.and_true, Bool.and_false, Bool.true_or, Bool.false_or, oSub, oNeg, oLt, oLe, oGt, oGe, oIs, oIsNot, Vs.isNon, oTru, oBl, oIx, oLen, oAbs, oIntC, oMax2, oMin2, oTupC, oLstC, oSl, keyD, decide_true, decide_false, plainE, fzE, gIx, List.filterMap_cons, List.filterMap_nil, wipeE, restE, List.all_cons, List.all_nil, List.getD_eq_getElem?_getD, Option.getD_some, oMod_ok, oFdiv_ok, oPow_lit, oMul_lit, oRepr_bl, oEq_str, oNe_str, oEq_int, oNe_int, oEq_bl, oNe_bl, oEq_nil, oNe_nil, oIsi_int, oIsi_bool, oIsi_listed, str_beq]
  by_cases hy : y = 0
  · simp only [decide_eq_true hy, k_ok, k_exc, kS_ok, kS_exc, kq_next, kq_ret, kq_brk, kq_cont, kq_exc, kq_retF, go_ok, go_exc, go_next, go_ret, go_brk, go_cont, go_excS, go_retF, go_some, go_v, getV_fz, go_c, go_bin, go_bin1, go_bin2, go_un, go_un1, go_tru, go_tru1, go_bl, go_bl1, go_and, go_andT, go_andF, go_or, go_orT, go_orF, go_not, go_not1, go_andV, go_orV, go_andV1, go_orV1, go_andVT, go_andVF, go_orVT, go_orVF, go_notV, go_notV1, go_notV2, go_if, go_ifT, go_ifF, go_nil, go_cons, go_cons1, go_cons2, go_chk, go_lst, go_tup, go_lst1, go_tup1, go_cal, go_cal1, go_isi, go_isi1, go_seq, go_sRet, go_ret1, go_sExpr, go_ex1, go_sIf, go_sifT, go_sifF, go_optS, go_sAsg, go_asg1, go_sSet, go_set1, go_sPar, go_par1, go_sAug, go_augV, kN_eq, kNil_eq, kCons_eq, kT_eq, rdE_eq, rdO_fz, rdO_ol, ownE_eq, owO_ol, go_binL, go_binL1, go_binL2, oSw_eq, go_binR, go_binR1, go_sPut, go_put1, go_putO, go_put2, go_putP, go_putN, go_retF1, go_fLst, go_fl1, go_sOwn, go_own1, go_call, go_call1, kFR_ok, kFR_exc, go_callIo, go_io0, go_io1, go_io2, kIo_ok, kIo_exc, go_callN, go_calln1, go_calln2, go_okF, go_excF, kRun_next, kRun_ret, kRun_exc, finF_none, finF_some, finS_ol, go_finO, go_finX, go_items, go_items_lst, go_items_tup, go_rng1, go_rng1_ok, go_rng2, go_rng2_ok, go_zip, go_zip_l, go_zip_t, go_enum, go_enum_l, go_sFor, go_for1, kLoop_next, kLoop_cont, kLoop_brk, kLoop_ret, kLoop_exc, turn_next, turn_cont, go_lc, go_lc1, kLc_ok, elem_ok, go_yes, go_sl, go_sl1, go_sl2, go_sl3, go_noP, go_p, go_p1, go_rev, go_rev1, go_chain, go_ch1, go_ch2, go_ch3T, go_ch3F, go_ch4, go_dic, go_dic1, go_prs_nil, go_prs, go_prs1, go_prs2, go_prs3, go_prs4, kW_ok, go_fcall, go_fcall1, kRunW_ok, go_okW, go_cf, go_cf1, oAdd_int, oAdd_bl, atI_0, atI_1, atI_2, atI_3, ixN_0, ixN_1, ixN_2, sz_lit, List.getElem?_cons_zero, List.getElem?_cons_succ, List.set_cons_zero, List.set_cons_succ, List.nil_append, List.cons_append, List.append_nil, List.length_cons, List.length_nil, Nat.reduceSub, Nat.reduceLeDiff, Nat.zero_add, Option.bind_some, Option.map_some, reduceCtorEq, Int.reduceLT, Int.reduceLE, Int.reduceNeg, Int.reducePow, Int.reduceToNat, and_true, true_and, and_self, ite_true, ite_false, if_true, if_false, Bool.not_true, Bool.not_false, Bool.true_and, Bool.false_and, Bool.and_true, Bool.and_false, Bool.true_or, Bool.false_or, oSub, oNeg, oLt, oLe, oGt, oGe, oIs, oIsNot, Vs.isNon, oTru, oBl, oIx, oLen, oAbs, oIntC, oMax2, oMin2, oTupC, oLstC, oSl, keyD, decide_true, decide_false, plainE, fzE, gIx, List.filterMap_cons, List.filterMap_nil, wipeE, restE, List.all_cons, List.all_nil, List.getD_eq_getElem?_getD, Option.getD_some, oMod_ok, oFdiv_ok, oPow_lit, oMul_lit, oRepr_bl, oEq_str, oNe_str, oEq_int, oNe_int, oEq_bl, oNe_bl, oEq_nil, oNe_nil, oIsi_int, oIsi_bool, oIsi_listed, str_beq]
    exact lots_9 h1 (by omega) (by omega) (.inr rfl) hK
  · simp only [decide_eq_false hy, k_ok, k_exc, kS_ok, kS_exc, kq_next, kq_ret, kq_brk, kq_cont, kq_exc, kq_retF, go_ok, go_exc, go_next, go_ret, go_brk, go_cont, go_excS, go_retF, go_some, go_v, getV_fz, go_c, go_bin, go_bin1, go_bin2, go_un, go_un1, go_tru, go_tru1, go_bl, go_bl1, go_and, go_andT, go_andF, go_or, go_orT, go_orF, go_not, go_not1, go_andV, go_orV, go_andV1, go_orV1, go_andVT, go_andVF, go_orVT, go_orVF, go_notV, go_notV1, go_notV2, go_if, go_ifT, go_ifF, go_nil, go_cons, go_cons1, go_cons2, go_chk, go_lst, go_tup, go_lst1, go_tup1, go_cal, go_cal1, go_isi, go_isi1, go_seq, go_sRet, go_ret1, go_sExpr, go_ex1, go_sIf, go_sifT, go_sifF, go_optS, go_sAsg, go_asg1, go_sSet, go_set1, go_sPar, go_par1, go_sAug, go_augV, kN_eq, kNil_eq, kCons_eq, kT_eq, rdE_eq, rdO_fz, rdO_ol, ownE_eq, owO_ol, go_binL, go_binL1, go_binL2, oSw_eq, go_binR, go_binR1, go_sPut, go_put1, go_putO, go_put2, go_putP, go_putN, go_retF1, go_fLst, go_fl1, go_sOwn, go_own1, go_call, go_call1, kFR_ok, kFR_exc, go_callIo, go_io0, go_io1, go_io2, kIo_ok, kIo_exc, go_callN, go_calln1, go_calln2, go_okF, go_excF, kRun_next, kRun_ret, kRun_exc, finF_none, finF_some, finS_ol, go_finO, go_finX, go_items, go_items_lst, go_items_tup, go_rng1, go_rng1_ok, go_rng2, go_rng2_ok, go_zip, go_zip_l, go_zip_t, go_enum, go_enum_l, go_sFor, go_for1, kLoop_next, kLoop_cont, kLoop_brk, kLoop_ret, kLoop_exc, turn_next, turn_cont, go_lc, go_lc1, kLc_ok, elem_ok, go_yes, go_sl, go_sl1, go_sl2, go_sl3, go_noP, go_p, go_p1, go_rev, go_rev1, go_chain, go_ch1, go_ch2, go_ch3T, go_ch3F, go_ch4, go_dic, go_dic1, go_prs_nil, go_prs, go_prs1, go_prs2, go_prs3, go_prs4, kW_ok, go_fcall, go_fcall1, kRunW_ok, go_okW, go_cf, go_cf1, oAdd_int, oAdd_bl, atI_0, atI_1, atI_2, atI_3, ixN_0, ixN_1, ixN_2, sz_lit, List.getElem?_cons_zero, List.getElem?_cons_succ, List.set_cons_zero, List.set_cons_succ, List.nil_append, List.cons_append, List.append_nil, List.length_cons, List.length_nil, Nat.reduceSub, Nat.reduceLeDiff, Nat.zero_add, Option.bind_some, Option.map_some, reduceCtorEq, Int.reduceLT, Int.reduceLE, Int.reduceNeg, Int.reducePow, Int.reduceToNat, and_true, true_and, and_self, ite_true, ite_false, if_true, if_false, Bool.not_true, Bool.not_false, Bool.true_and, Bool.false_and, Bool.and_true, Bool.and_false, Bool.true_or, Bool.false_or, oSub, oNeg, oLt, oLe, oGt, oGe, oIs, oIsNot, Vs.isNon, oTru, oBl, oIx, oLen, oAbs, oIntC, oMax2, oMin2, oTupC, oLstC, oSl, keyD, decide_true, decide_false, plainE, fzE, gIx, List.filterMap_cons, List.filterMap_nil, wipeE, restE, List.all_cons, List.all_nil, List.getD_eq_getElem?_getD, Option.getD_some, oMod_ok, oFdiv_ok, oPow_lit, oMul_lit, oRepr_bl, oEq_str, oNe_str, oEq_int, oNe_int, oEq_bl, oNe_bl, oEq_nil, oNe_nil, oIsi_int, oIsi_bool, oIsi_listed, str_beq]
    exact lots_9 h1 (by omega) (by omega) (.inl rfl) hK
theorem lots_7 {K : FR → Prop} {n : Nat} {W W0 : List D} {m w : Int} {xs : List D} (h : Wl n W) (hn : n < 2 ^ 17) (hx : xs.length ≤ 300) (hK : ∀ W', Wl (n + 3) W' → K (.ok (.bl true) (some W'))) :
    Go (kRun (some W0) K) (b__law_lots_right_7 (lotE W m w xs)) := by
  unfold b__law_lots_right_7 lotE
  simp only [k_ok, k_exc, kS_ok, kS_exc, kq_next, kq_ret, kq_brk, kq_cont, kq_exc, kq_retF, go_ok, go_exc, go_next, go_ret, go_brk, go_cont, go_excS, go_retF, go_some, go_v, getV_fz, go_c, go_bin, go_bin1, go_bin2, go_un, go_un1, go_tru, go_tru1, go_bl, go_bl1, go_and, go_andT, go_andF, go_or, go_orT, go_orF, go_not, go_not1, go_andV, go_orV, go_andV1, go_orV1, go_andVT, go_andVF, go_orVT, go_orVF, go_notV, go_notV1, go_notV2, go_if, go_ifT, go_ifF, go_nil, go_cons, go_cons1, go_cons2, go_chk, go_lst, go_tup, go_lst1, go_tup1, go_cal, go_cal1, go_isi, go_isi1, go_seq, go_sRet, go_ret1, go_sExpr, go_ex1, go_sIf, go_sifT, go_sifF, go_optS, go_sAsg, go_asg1, go_sSet, go_set1, go_sPar, go_par1, go_sAug, go_augV, kN_eq, kNil_eq, kCons_eq, kT_eq, rdE_eq, rdO_fz, rdO_ol, ownE_eq, owO_ol, go_binL, go_binL1, go_binL2, oSw_eq, go_binR, go_binR1, go_sPut, go_put1, go_putO, go_put2, go_putP, go_putN, go_retF1, go_fLst, go_fl1, go_sOwn, go_own1, go_call, go_call1, kFR_ok, kFR_exc, go_callIo, go_io0, go_io1, go_io2, kIo_ok, kIo_exc, go_callN, go_calln1, go_calln2, go_okF, go_excF, kRun_next, kRun_ret, kRun_exc, finF_none, finF_some, finS_ol, go_finO, go_finX, go_items, go_items_lst, go_items_tup, go_rng1, go_rng1_ok, go_rng2, go_rng2_ok, go_zip, go_zip_l, go_zip_t, go_enum, go_enum_l, go_sFor, go_for1, kLoop_next, kLoop_cont, kLoop_brk, kLoop_ret, kLoop_exc, turn_next, turn_cont, go_lc, go_lc1, kLc_ok, elem_ok, go_yes, go_sl, go_sl1, go_sl2, go_sl3, go_noP, go_p, go_p1, go_rev, go_rev1, go_chain, go_ch1, go_ch2, go_ch3T, go_ch3F, go_ch4, go_dic, go_dic1, go_prs_nil, go_prs, go_prs1, go_prs2, go_prs3, go_prs4, kW_ok, go_fcall, go_fcall1, kRunW_ok, go_okW, go_cf, go_cf1, oAdd_int, oAdd_bl, atI_0, atI_1, atI_2, atI_3, ixN_0, ixN_1, ixN_2, sz_lit, List.getElem?_cons_zero, List.getElem?_cons_succ, List.set_cons_zero, List.set_cons_succ, List.nil_append, List.cons_append, List.append_nil, List.length_cons, List.length_nil, Nat.reduceSub, Nat.reduceLeDiff, Nat.zero_add, Option.bind_some, Option.map_some, reduceCtorEq, Int.reduceLT, Int.reduceLE, Int.reduceNeg, Int.reducePow, Int.reduceToNat, and_true, true_and, and_self, ite_true, ite_false, if_true, if_false, Bool.not_true, Bool.not_false, Bool.true_and, Bool.false_and, Bool.and_true, Bool.and_false, Bool.true_or, Bool.false_or, oSub, oNeg, oLt, oLe, oGt, oGe, oIs, oIsNot, Vs.isNon, oTru, oBl, oIx, oLen, oAbs, oIntC, oMax2, oMin2, oTupC, oLstC, oSl, keyD, decide_true, decide_false, plainE, fzE, gIx, List.filterMap_cons, List.filterMap_nil, wipeE, restE, List.all_cons, List.all_nil, List.getD_eq_getElem?_getD, Option.getD_some, oMod_ok, oFdiv_ok, oPow_lit, oMul_lit, oRepr_bl, oEq_str, oNe_str, oEq_int, oNe_int, oEq_bl, oNe_bl, oEq_nil, oNe_nil, oIsi_int, oIsi_bool, oIsi_listed, str_beq]
  by_cases hw : w = 4
  · simp only [decide_eq_true hw, k_ok, k_exc, kS_ok, kS_exc, kq_next, kq_ret, kq_brk, kq_cont, kq_exc, kq_retF, go_ok, go_exc, go_next, go_ret, go_brk, go_cont, go_excS, go_retF, go_some, go_v, getV_fz, go_c, go_bin, go_bin1, go_bin2, go_un, go_un1, go_tru, go_tru1, go_bl, go_bl1, go_and, go_andT, go_andF, go_or, go_orT, go_orF, go_not, go_not1, go_andV, go_orV, go_andV1, go_orV1, go_andVT, go_andVF, go_orVT, go_orVF, go_notV, go_notV1, go_notV2, go_if, go_ifT, go_ifF, go_nil, go_cons, go_cons1, go_cons2, go_chk, go_lst, go_tup, go_lst1, go_tup1, go_cal, go_cal1, go_isi, go_isi1, go_seq, go_sRet, go_ret1, go_sExpr, go_ex1, go_sIf, go_sifT, go_sifF, go_optS, go_sAsg, go_asg1, go_sSet, go_set1, go_sPar, go_par1, go_sAug, go_augV, kN_eq, kNil_eq, kCons_eq, kT_eq, rdE_eq, rdO_fz, rdO_ol, ownE_eq, owO_ol, go_binL, go_binL1, go_binL2, oSw_eq, go_binR, go_binR1, go_sPut, go_put1, go_putO, go_put2, go_putP, go_putN, go_retF1, go_fLst, go_fl1, go_sOwn, go_own1, go_call, go_call1, kFR_ok, kFR_exc, go_callIo, go_io0, go_io1, go_io2, kIo_ok, kIo_exc, go_callN, go_calln1, go_calln2, go_okF, go_excF, kRun_next, kRun_ret, kRun_exc, finF_none, finF_some, finS_ol, go_finO, go_finX, go_items, go_items_lst, go_items_tup, go_rng1, go_rng1_ok, go_rng2, go_rng2_ok, go_zip, go_zip_l, go_zip_t, go_enum, go_enum_l, go_sFor, go_for1, kLoop_next, kLoop_cont, kLoop_brk, kLoop_ret, kLoop_exc, turn_next, turn_cont, go_lc, go_lc1, kLc_ok, elem_ok, go_yes, go_sl, go_sl1, go_sl2, go_sl3, go_noP, go_p, go_p1, go_rev, go_rev1, go_chain, go_ch1, go_ch2, go_ch3T, go_ch3F, go_ch4, go_dic, go_dic1, go_prs_nil, go_prs, go_prs1, go_prs2, go_prs3, go_prs4, kW_ok, go_fcall, go_fcall1, kRunW_ok, go_okW, go_cf, go_cf1, oAdd_int, oAdd_bl, atI_0, atI_1, atI_2, atI_3, ixN_0, ixN_1, ixN_2, sz_lit, List.getElem?_cons_zero, List.getElem?_cons_succ, List.set_cons_zero, List.set_cons_succ, List.nil_append, List.cons_append, List.append_nil, List.length_cons, List.length_nil, Nat.reduceSub, Nat.reduceLeDiff, Nat.zero_add, Option.bind_some, Option.map_some, reduceCtorEq, Int.reduceLT, Int.reduceLE, Int.reduceNeg, Int.reducePow, Int.reduceToNat, and_true, true_and, and_self, ite_true, ite_false, if_true, if_false, Bool.not_true, Bool.not_false, Bool.true_and, Bool.false_and, Bool.and_true, Bool.and_false, Bool.true_or, Bool.false_or, oSub, oNeg, oLt, oLe, oGt, oGe, oIs, oIsNot, Vs.isNon, oTru, oBl, oIx, oLen, oAbs, oIntC, oMax2, oMin2, oTupC, oLstC, oSl, keyD, decide_true, decide_false, plainE, fzE, gIx, List.filterMap_cons, List.filterMap_nil, wipeE, restE, List.all_cons, List.all_nil, List.getD_eq_getElem?_getD, Option.getD_some, oMod_ok, oFdiv_ok, oPow_lit, oMul_lit, oRepr_bl, oEq_str, oNe_str, oEq_int, oNe_int, oEq_bl, oNe_bl, oEq_nil, oNe_nil, oIsi_int, oIsi_bool, oIsi_listed, str_beq]
    refine odd_go h (by omega) fun W1 y h1 _ _ => ?_
    have e := oAdd_lst (xs := xs) (ys := [y]) (by simp only [List.length_cons, List.length_nil]; omega)
    simp only [k_ok, k_exc, kS_ok, kS_exc, kq_next, kq_ret, kq_brk, kq_cont, kq_exc, kq_retF, go_ok, go_exc, go_next, go_ret, go_brk, go_cont, go_excS, go_retF, go_some, go_v, getV_fz, go_c, go_bin, go_bin1, go_bin2, go_un, go_un1, go_tru, go_tru1, go_bl, go_bl1, go_and, go_andT, go_andF, go_or, go_orT, go_orF, go_not, go_not1, go_andV, go_orV, go_andV1, go_orV1, go_andVT, go_andVF, go_orVT, go_orVF, go_notV, go_notV1, go_notV2, go_if, go_ifT, go_ifF, go_nil, go_cons, go_cons1, go_cons2, go_chk, go_lst, go_tup, go_lst1, go_tup1, go_cal, go_cal1, go_isi, go_isi1, go_seq, go_sRet, go_ret1, go_sExpr, go_ex1, go_sIf, go_sifT, go_sifF, go_optS, go_sAsg, go_asg1, go_sSet, go_set1, go_sPar, go_par1, go_sAug, go_augV, kN_eq, kNil_eq, kCons_eq, kT_eq, rdE_eq, rdO_fz, rdO_ol, ownE_eq, owO_ol, go_binL, go_binL1, go_binL2, oSw_eq, go_binR, go_binR1, go_sPut, go_put1, go_putO, go_put2, go_putP, go_putN, go_retF1, go_fLst, go_fl1, go_sOwn, go_own1, go_call, go_call1, kFR_ok, kFR_exc, go_callIo, go_io0, go_io1, go_io2, kIo_ok, kIo_exc, go_callN, go_calln1, go_calln2, go_okF, go_excF, kRun_next, kRun_ret, kRun_exc, finF_none, finF_some, finS_ol, go_finO, go_finX, go_items, go_items_lst, go_items_tup, go_rng1, go_rng1_ok, go_rng2, go_rng2_ok, go_zip, go_zip_l, go_zip_t, go_enum, go_enum_l, go_sFor, go_for1, kLoop_next, kLoop_cont, kLoop_brk, kLoop_ret, kLoop_exc, turn_next, turn_cont, go_lc, go_lc1, kLc_ok, elem_ok, go_yes, go_sl, go_sl1, go_sl2, go_sl3, go_noP, go_p, go_p1, go_rev, go_rev1, go_chain, go_ch1, go_ch2, go_ch3T, go_ch3F, go_ch4, go_dic, go_dic1, go_prs_nil, go_prs, go_prs1, go_prs2, go_prs3, go_prs4, kW_ok, go_fcall, go_fcall1, kRunW_ok, go_okW, go_cf, go_cf1, oAdd_int, oAdd_bl, atI_0, atI_1, atI_2, atI_3, ixN_0, ixN_1, ixN_2, sz_lit, List.getElem?_cons_zero, List.getElem?_cons_succ, List.set_cons_zero, List.set_cons_succ, List.nil_append, List.cons_append, List.append_nil, List.length_cons, List.length_nil, Nat.reduceSub, Nat.reduceLeDiff, Nat.zero_add, Option.bind_some, Option.map_some, reduceCtorEq, Int.reduceLT, Int.reduceLE, Int.reduceNeg, Int.reducePow, Int.reduceToNat, and_true, true_and, and_self, ite_true, ite_false, if_true, if_false, Bool.not_true, Bool.not_false, Bool.true_and, Bool.false_and, Bool.and_true, Bool.and_false, Bool.true_or, Bool.false_or, oSub, oNeg, oLt, oLe, oGt, oGe, oIs, oIsNot, Vs.isNon, oTru, oBl, oIx, oLen, oAbs, oIntC, oMax2, oMin2, oTupC, oLstC, oSl, keyD, decide_true, decide_false, plainE, fzE, gIx, List.filterMap_cons, List.filterMap_nil, wipeE, restE, List.all_cons, List.all_nil, List.getD_eq_getElem?_getD, Option.getD_some, oMod_ok, oFdiv_ok, oPow_lit, oMul_lit, oRepr_bl, oEq_str, oNe_str, oEq_int, oNe_int, oEq_bl, oNe_bl, oEq_nil, oNe_nil, oIsi_int, oIsi_bool, oIsi_listed, str_beq, e]
    exact lots_8 h1 (by omega) (by simp only [List.length_append, List.length_cons, List.length_nil]; omega) hK
  · simp only [decide_eq_false hw, k_ok, k_exc, kS_ok, kS_exc, kq_next, kq_ret, kq_brk, kq_cont, kq_exc, kq_retF, go_ok, go_exc, go_next, go_ret, go_brk, go_cont, go_excS, go_retF, go_some, go_v, getV_fz, go_c, go_bin, go_bin1, go_bin2, go_un, go_un1, go_tru, go_tru1, go_bl, go_bl1, go_and, go_andT, go_andF, go_or, go_orT, go_orF, go_not, go_not1, go_andV, go_orV, go_andV1, go_orV1, go_andVT, go_andVF, go_orVT, go_orVF, go_notV, go_notV1, go_notV2, go_if, go_ifT, go_ifF, go_nil, go_cons, go_cons1, go_cons2, go_chk, go_lst, go_tup, go_lst1, go_tup1, go_cal, go_cal1, go_isi, go_isi1, go_seq, go_sRet, go_ret1, go_sExpr, go_ex1, go_sIf, go_sifT, go_sifF, go_optS, go_sAsg, go_asg1, go_sSet, go_set1, go_sPar, go_par1, go_sAug, go_augV, kN_eq, kNil_eq, kCons_eq, kT_eq, rdE_eq, rdO_fz, rdO_ol, ownE_eq, owO_ol, go_binL, go_binL1, go_binL2, oSw_eq, go_binR, go_binR1, go_sPut, go_put1, go_putO, go_put2, go_putP, go_putN, go_retF1, go_fLst, go_fl1, go_sOwn, go_own1, go_call, go_call1, kFR_ok, kFR_exc, go_callIo, go_io0, go_io1, go_io2, kIo_ok, kIo_exc, go_callN, go_calln1, go_calln2, go_okF, go_excF, kRun_next, kRun_ret, kRun_exc, finF_none, finF_some, finS_ol, go_finO, go_finX, go_items, go_items_lst, go_items_tup, go_rng1, go_rng1_ok, go_rng2, go_rng2_ok, go_zip, go_zip_l, go_zip_t, go_enum, go_enum_l, go_sFor, go_for1, kLoop_next, kLoop_cont, kLoop_brk, kLoop_ret, kLoop_exc, turn_next, turn_cont, go_lc, go_lc1, kLc_ok, elem_ok, go_yes, go_sl, go_sl1, go_sl2, go_sl3, go_noP, go_p, go_p1, go_rev, go_rev1, go_chain, go_ch1, go_ch2, go_ch3T, go_ch3F, go_ch4, go_dic, go_dic1, go_prs_nil, go_prs, go_prs1, go_prs2, go_prs3, go_prs4, kW_ok, go_fcall, go_fcall1, kRunW_ok, go_okW, go_cf, go_cf1, oAdd_int, oAdd_bl, atI_0, atI_1, atI_2, atI_3, ixN_0, ixN_1, ixN_2, sz_lit, List.getElem?_cons_zero, List.getElem?_cons_succ, List.set_cons_zero, List.set_cons_succ, List.nil_append, List.cons_append, List.append_nil, List.length_cons, List.length_nil, Nat.reduceSub, Nat.reduceLeDiff, Nat.zero_add, Option.bind_some, Option.map_some, reduceCtorEq, Int.reduceLT, Int.reduceLE, Int.reduceNeg, Int.reducePow, Int.reduceToNat, and_true, true_and, and_self, ite_true, ite_false, if_true, if_false, Bool.not_true, Bool.not_false, Bool.true_and, Bool.false_and, Bool.and_true, Bool.and_false, Bool.true_or, Bool.false_or, oSub, oNeg, oLt, oLe, oGt, oGe, oIs, oIsNot, Vs.isNon, oTru, oBl, oIx, oLen, oAbs, oIntC, oMax2, oMin2, oTupC, oLstC, oSl, keyD, decide_true, decide_false, plainE, fzE, gIx, List.filterMap_cons, List.filterMap_nil, wipeE, restE, List.all_cons, List.all_nil, List.getD_eq_getElem?_getD, Option.getD_some, oMod_ok, oFdiv_ok, oPow_lit, oMul_lit, oRepr_bl, oEq_str, oNe_str, oEq_int, oNe_int, oEq_bl, oNe_bl, oEq_nil, oNe_nil, oIsi_int, oIsi_bool, oIsi_listed, str_beq]
    exact lots_8 h (by omega) (by omega) fun W' h' => hK W' (h'.mono (by omega))
theorem lots_6 {K : FR → Prop} {n : Nat} {W W0 : List D} {m w : Int} {xs : List D} (h : Wl n W) (hn : n < 2 ^ 17) (hx : xs.length ≤ 250) (hK : ∀ W', Wl (n + 3) W' → K (.ok (.bl true) (some W'))) :
    Go (kRun (some W0) K) (b__law_lots_right_6 (lotE W m w xs)) := by
  unfold b__law_lots_right_6 lotE
  simp only [k_ok, k_exc, kS_ok, kS_exc, kq_next, kq_ret, kq_brk, kq_cont, kq_exc, kq_retF, go_ok, go_exc, go_next, go_ret, go_brk, go_cont, go_excS, go_retF, go_some, go_v, getV_fz, go_c, go_bin, go_bin1, go_bin2, go_un, go_un1, go_tru, go_tru1, go_bl, go_bl1, go_and, go_andT, go_andF, go_or, go_orT, go_orF, go_not, go_not1, go_andV, go_orV, go_andV1, go_orV1, go_andVT, go_andVF, go_orVT, go_orVF, go_notV, go_notV1, go_notV2, go_if, go_ifT, go_ifF, go_nil, go_cons, go_cons1, go_cons2, go_chk, go_lst, go_tup, go_lst1, go_tup1, go_cal, go_cal1, go_isi, go_isi1, go_seq, go_sRet, go_ret1, go_sExpr, go_ex1, go_sIf, go_sifT, go_sifF, go_optS, go_sAsg, go_asg1, go_sSet, go_set1, go_sPar, go_par1, go_sAug, go_augV, kN_eq, kNil_eq, kCons_eq, kT_eq, rdE_eq, rdO_fz, rdO_ol, ownE_eq, owO_ol, go_binL, go_binL1, go_binL2, oSw_eq, go_binR, go_binR1, go_sPut, go_put1, go_putO, go_put2, go_putP, go_putN, go_retF1, go_fLst, go_fl1, go_sOwn, go_own1, go_call, go_call1, kFR_ok, kFR_exc, go_callIo, go_io0, go_io1, go_io2, kIo_ok, kIo_exc, go_callN, go_calln1, go_calln2, go_okF, go_excF, kRun_next, kRun_ret, kRun_exc, finF_none, finF_some, finS_ol, go_finO, go_finX, go_items, go_items_lst, go_items_tup, go_rng1, go_rng1_ok, go_rng2, go_rng2_ok, go_zip, go_zip_l, go_zip_t, go_enum, go_enum_l, go_sFor, go_for1, kLoop_next, kLoop_cont, kLoop_brk, kLoop_ret, kLoop_exc, turn_next, turn_cont, go_lc, go_lc1, kLc_ok, elem_ok, go_yes, go_sl, go_sl1, go_sl2, go_sl3, go_noP, go_p, go_p1, go_rev, go_rev1, go_chain, go_ch1, go_ch2, go_ch3T, go_ch3F, go_ch4, go_dic, go_dic1, go_prs_nil, go_prs, go_prs1, go_prs2, go_prs3, go_prs4, kW_ok, go_fcall, go_fcall1, kRunW_ok, go_okW, go_cf, go_cf1, oAdd_int, oAdd_bl, atI_0, atI_1, atI_2, atI_3, ixN_0, ixN_1, ixN_2, sz_lit, List.getElem?_cons_zero, List.getElem?_cons_succ, List.set_cons_zero, List.set_cons_succ, List.nil_append, List.cons_append, List.append_nil, List.length_cons, List.length_nil, Nat.reduceSub, Nat.reduceLeDiff, Nat.zero_add, Option.bind_some, Option.map_some, reduceCtorEq, Int.reduceLT, Int.reduceLE, Int.reduceNeg, Int.reducePow, Int.reduceToNat, and_true, true_and, and_self, ite_true, ite_false, if_true, if_false, Bool.not_true, Bool.not_false, Bool.true_and, Bool.false_and, Bool.and_true, Bool.and_false, Bool.true_or, Bool.false_or, oSub, oNeg, oLt, oLe, oGt, oGe, oIs, oIsNot, Vs.isNon, oTru, oBl, oIx, oLen, oAbs, oIntC, oMax2, oMin2, oTupC, oLstC, oSl, keyD, decide_true, decide_false, plainE, fzE, gIx, List.filterMap_cons, List.filterMap_nil, wipeE, restE, List.all_cons, List.all_nil, List.getD_eq_getElem?_getD, Option.getD_some, oMod_ok, oFdiv_ok, oPow_lit, oMul_lit, oRepr_bl, oEq_str, oNe_str, oEq_int, oNe_int, oEq_bl, oNe_bl, oEq_nil, oNe_nil, oIsi_int, oIsi_bool, oIsi_listed, str_beq]
  by_cases hw : w = 3
  · have e := oAdd_lst (xs := xs) (ys := [.int m]) (by simp only [List.length_cons, List.length_nil]; omega)
    simp only [decide_eq_true hw, k_ok, k_exc, kS_ok, kS_exc, kq_next, kq_ret, kq_brk, kq_cont, kq_exc, kq_retF, go_ok, go_exc, go_next, go_ret, go_brk, go_cont, go_excS, go_retF, go_some, go_v, getV_fz, go_c, go_bin, go_bin1, go_bin2, go_un, go_un1, go_tru, go_tru1, go_bl, go_bl1, go_and, go_andT, go_andF, go_or, go_orT, go_orF, go_not, go_not1, go_andV, go_orV, go_andV1, go_orV1, go_andVT, go_andVF, go_orVT, go_orVF, go_notV, go_notV1, go_notV2, go_if, go_ifT, go_ifF, go_nil, go_cons, go_cons1, go_cons2, go_chk, go_lst, go_tup, go_lst1, go_tup1, go_cal, go_cal1, go_isi, go_isi1, go_seq, go_sRet, go_ret1, go_sExpr, go_ex1, go_sIf, go_sifT, go_sifF, go_optS, go_sAsg, go_asg1, go_sSet, go_set1, go_sPar, go_par1, go_sAug, go_augV, kN_eq, kNil_eq, kCons_eq, kT_eq, rdE_eq, rdO_fz, rdO_ol, ownE_eq, owO_ol, go_binL, go_binL1, go_binL2, oSw_eq, go_binR, go_binR1, go_sPut, go_put1, go_putO, go_put2, go_putP, go_putN, go_retF1, go_fLst, go_fl1, go_sOwn, go_own1, go_call, go_call1, kFR_ok, kFR_exc, go_callIo, go_io0, go_io1, go_io2, kIo_ok, kIo_exc, go_callN, go_calln1, go_calln2, go_okF, go_excF, kRun_next, kRun_ret, kRun_exc, finF_none, finF_some, finS_ol, go_finO, go_finX, go_items, go_items_lst, go_items_tup, go_rng1, go_rng1_ok, go_rng2, go_rng2_ok, go_zip, go_zip_l, go_zip_t, go_enum, go_enum_l, go_sFor, go_for1, kLoop_next, kLoop_cont, kLoop_brk, kLoop_ret, kLoop_exc, turn_next, turn_cont, go_lc, go_lc1, kLc_ok, elem_ok, go_yes, go_sl, go_sl1, go_sl2, go_sl3, go_noP, go_p, go_p1, go_rev, go_rev1, go_chain, go_ch1, go_ch2, go_ch3T, go_ch3F, go_ch4, go_dic, go_dic1, go_prs_nil, go_prs, go_prs1, go_prs2, go_prs3, go_prs4, kW_ok, go_fcall, go_fcall1, kRunW_ok, go_okW, go_cf, go_cf1, oAdd_int, oAdd_bl, atI_0, atI_1, atI_2, atI_3, ixN_0, ixN_1, ixN_2, sz_lit, List.getElem?_cons_zero, List.getElem?_cons_succ, List.set_cons_zero, List.set_cons_succ, List.nil_append, List.cons_append, List.append_nil, List.length_cons, List.length_nil, Nat.reduceSub, Nat.reduceLeDiff, Nat.zero_add, Option.bind_some, Option.map_some, reduceCtorEq, Int.reduceLT, Int.reduceLE, Int.reduceNeg, Int.reducePow, Int.reduceToNat, and_true, true_and, and_self, ite_true, ite_false, if_true, if_false, Bool.not_true, Bool.not_false, Bool.true_and, Bool.false_and, Bool.and_true, Bool.and_false, Bool.true_or, Bool.false_or, oSub, oNeg, oLt, oLe, oGt, oGe, oIs, oIsNot, Vs.isNon, oTru, oBl, oIx, oLen, oAbs, oIntC, oMax2, oMin2, oTupC, oLstC, oSl, keyD, decide_true, decide_false, plainE, fzE, gIx, List.filterMap_cons, List.filterMap_nil, wipeE, restE, List.all_cons, List.all_nil, List.getD_eq_getElem?_getD, Option.getD_some, oMod_ok, oFdiv_ok, oPow_lit, oMul_lit, oRepr_bl, oEq_str, oNe_str, oEq_int, oNe_int, oEq_bl, oNe_bl, oEq_nil, oNe_nil, oIsi_int, oIsi_bool, oIsi_listed, str_beq, e]
    exact lots_7 h (by omega) (by simp only [List.length_append, List.length_cons, List.length_nil]; omega) hK
  · simp only [decide_eq_false hw, k_ok, k_exc, kS_ok, kS_exc, kq_next, kq_ret, kq_brk, kq_cont, kq_exc, kq_retF, go_ok, go_exc, go_next, go_ret, go_brk, go_cont, go_excS, go_retF, go_some, go_v, getV_fz, go_c, go_bin, go_bin1, go_bin2, go_un, go_un1, go_tru, go_tru1, go_bl, go_bl1, go_and, go_andT, go_andF, go_or, go_orT, go_orF, go_not, go_not1, go_andV, go_orV, go_andV1, go_orV1, go_andVT, go_andVF, go_orVT, go_orVF, go_notV, go_notV1, go_notV2, go_if, go_ifT, go_ifF, go_nil, go_cons, go_cons1, go_cons2, go_chk, go_lst, go_tup, go_lst1, go_tup1, go_cal, go_cal1, go_isi, go_isi1, go_seq, go_sRet, go_ret1, go_sExpr, go_ex1, go_sIf, go_sifT, go_sifF, go_optS, go_sAsg, go_asg1, go_sSet, go_set1, go_sPar, go_par1, go_sAug, go_augV, kN_eq, kNil_eq, kCons_eq, kT_eq, rdE_eq, rdO_fz, rdO_ol, ownE_eq, owO_ol, go_binL, go_binL1, go_binL2, oSw_eq, go_binR, go_binR1, go_sPut, go_put1, go_putO, go_put2, go_putP, go_putN, go_retF1, go_fLst, go_fl1, go_sOwn, go_own1, go_call, go_call1, kFR_ok, kFR_exc, go_callIo, go_io0, go_io1, go_io2, kIo_ok, kIo_exc, go_callN, go_calln1, go_calln2, go_okF, go_excF, kRun_next, kRun_ret, kRun_exc, finF_none, finF_some, finS_ol, go_finO, go_finX, go_items, go_items_lst, go_items_tup, go_rng1, go_rng1_ok, go_rng2, go_rng2_ok, go_zip, go_zip_l, go_zip_t, go_enum, go_enum_l, go_sFor, go_for1, kLoop_next, kLoop_cont, kLoop_brk, kLoop_ret, kLoop_exc, turn_next, turn_cont, go_lc, go_lc1, kLc_ok, elem_ok, go_yes, go_sl, go_sl1, go_sl2, go_sl3, go_noP, go_p, go_p1, go_rev, go_rev1, go_chain, go_ch1, go_ch2, go_ch3T, go_ch3F, go_ch4, go_dic, go_dic1, go_prs_nil, go_prs, go_prs1, go_prs2, go_prs3, go_prs4, kW_ok, go_fcall, go_fcall1, kRunW_ok, go_okW, go_cf, go_cf1, oAdd_int, oAdd_bl, atI_0, atI_1, atI_2, atI_3, ixN_0, ixN_1, ixN_2, sz_lit, List.getElem?_cons_zero, List.getElem?_cons_succ, List.set_cons_zero, List.set_cons_succ, List.nil_append, List.cons_append, List.append_nil, List.length_cons, List.length_nil, Nat.reduceSub, Nat.reduceLeDiff, Nat.zero_add, Option.bind_some, Option.map_some, reduceCtorEq, Int.reduceLT, Int.reduceLE, Int.reduceNeg, Int.reducePow, Int.reduceToNat, and_true, true_and, and_self, ite_true, ite_false, if_true, if_false, Bool.not_true, Bool.not_false, Bool.true_and, Bool.false_and, Bool.and_true, Bool.and_false, Bool.true_or, Bool.false_or, oSub, oNeg, oLt, oLe, oGt, oGe, oIs, oIsNot, Vs.isNon, oTru, oBl, oIx, oLen, oAbs, oIntC, oMax2, oMin2, oTupC, oLstC, oSl, keyD, decide_true, decide_false, plainE, fzE, gIx, List.filterMap_cons, List.filterMap_nil, wipeE, restE, List.all_cons, List.all_nil, List.getD_eq_getElem?_getD, Option.getD_some, oMod_ok, oFdiv_ok, oPow_lit, oMul_lit, oRepr_bl, oEq_str, oNe_str, oEq_int, oNe_int, oEq_bl, oNe_bl, oEq_nil, oNe_nil, oIsi_int, oIsi_bool, oIsi_listed, str_beq]
    exact lots_7 h (by omega) (by omega) hK
theorem lots_5 {K : FR → Prop} {n : Nat} {W W0 : List D} {m w : Int} {xs : List D} (h : Wl n W) (hn : n < 2 ^ 17) (hx : xs.length ≤ 200) (hK : ∀ W', Wl (n + 3) W' → K (.ok (.bl true) (some W'))) :
    Go (kRun (some W0) K) (b__law_lots_right_5 (lotE W m w xs)) := by
  unfold b__law_lots_right_5 lotE
  simp only [k_ok, k_exc, kS_ok, kS_exc, kq_next, kq_ret, kq_brk, kq_cont, kq_exc, kq_retF, go_ok, go_exc, go_next, go_ret, go_brk, go_cont, go_excS, go_retF, go_some, go_v, getV_fz, go_c, go_bin, go_bin1, go_bin2, go_un, go_un1, go_tru, go_tru1, go_bl, go_bl1, go_and, go_andT, go_andF, go_or, go_orT, go_orF, go_not, go_not1, go_andV, go_orV, go_andV1, go_orV1, go_andVT, go_andVF, go_orVT, go_orVF, go_notV, go_notV1, go_notV2, go_if, go_ifT, go_ifF, go_nil, go_cons, go_cons1, go_cons2, go_chk, go_lst, go_tup, go_lst1, go_tup1, go_cal, go_cal1, go_isi, go_isi1, go_seq, go_sRet, go_ret1, go_sExpr, go_ex1, go_sIf, go_sifT, go_sifF, go_optS, go_sAsg, go_asg1, go_sSet, go_set1, go_sPar, go_par1, go_sAug, go_augV, kN_eq, kNil_eq, kCons_eq, kT_eq, rdE_eq, rdO_fz, rdO_ol, ownE_eq, owO_ol, go_binL, go_binL1, go_binL2, oSw_eq, go_binR, go_binR1, go_sPut, go_put1, go_putO, go_put2, go_putP, go_putN, go_retF1, go_fLst, go_fl1, go_sOwn, go_own1, go_call, go_call1, kFR_ok, kFR_exc, go_callIo, go_io0, go_io1, go_io2, kIo_ok, kIo_exc, go_callN, go_calln1, go_calln2, go_okF, go_excF, kRun_next, kRun_ret, kRun_exc, finF_none, finF_some, finS_ol, go_finO, go_finX, go_items, go_items_lst, go_items_tup, go_rng1, go_rng1_ok, go_rng2, go_rng2_ok, go_zip, go_zip_l, go_zip_t, go_enum, go_enum_l, go_sFor, go_for1, kLoop_next, kLoop_cont, kLoop_brk, kLoop_ret, kLoop_exc, turn_next, turn_cont, go_lc, go_lc1, kLc_ok, elem_ok, go_yes, go_sl, go_sl1, go_sl2, go_sl3, go_noP, go_p, go_p1, go_rev, go_rev1, go_chain, go_ch1, go_ch2, go_ch3T, go_ch3F, go_ch4, go_dic, go_dic1, go_prs_nil, go_prs, go_prs1, go_prs2, go_prs3, go_prs4, kW_ok, go_fcall, go_fcall1, kRunW_ok, go_okW, go_cf, go_cf1, oAdd_int, oAdd_bl, atI_0, atI_1, atI_2, atI_3, ixN_0, ixN_1, ixN_2, sz_lit, List.getElem?_cons_zero, List.getElem?_cons_succ, List.set_cons_zero, List.set_cons_succ, List.nil_append, List.cons_append, List.append_nil, List.length_cons, List.length_nil, Nat.reduceSub, Nat.reduceLeDiff, Nat.zero_add, Option.bind_some, Option.map_some, reduceCtorEq, Int.reduceLT, Int.reduceLE, Int.reduceNeg, Int.reducePow, Int.reduceToNat, and_true, true_and, and_self, ite_true, ite_false, if_true, if_false, Bool.not_true, Bool.not_false, Bool.true_and, Bool.false_and, Bool.and_true, Bool.and_false, Bool.true_or, Bool.false_or, oSub, oNeg, oLt, oLe, oGt, oGe, oIs, oIsNot, Vs.isNon, oTru, oBl, oIx, oLen, oAbs, oIntC, oMax2, oMin2, oTupC, oLstC, oSl, keyD, decide_true, decide_false, plainE, fzE, gIx, List.filterMap_cons, List.filterMap_nil, wipeE, restE, List.all_cons, List.all_nil, List.getD_eq_getElem?_getD, Option.getD_some, oMod_ok, oFdiv_ok, oPow_lit, oMul_lit, oRepr_bl, oEq_str, oNe_str, oEq_int, oNe_int, oEq_bl, oNe_bl, oEq_nil, oNe_nil, oIsi_int, oIsi_bool, oIsi_listed, str_beq]
  by_cases hw : w = 2
  · have e := oAdd_lst (xs := [.int (-1)]) (ys := xs) (by simp only [List.length_cons, List.length_nil]; omega)
    simp only [decide_eq_true hw, k_ok, k_exc, kS_ok, kS_exc, kq_next, kq_ret, kq_brk, kq_cont, kq_exc, kq_retF, go_ok, go_exc, go_next, go_ret, go_brk, go_cont, go_excS, go_retF, go_some, go_v, getV_fz, go_c, go_bin, go_bin1, go_bin2, go_un, go_un1, go_tru, go_tru1, go_bl, go_bl1, go_and, go_andT, go_andF, go_or, go_orT, go_orF, go_not, go_not1, go_andV, go_orV, go_andV1, go_orV1, go_andVT, go_andVF, go_orVT, go_orVF, go_notV, go_notV1, go_notV2, go_if, go_ifT, go_ifF, go_nil, go_cons, go_cons1, go_cons2, go_chk, go_lst, go_tup, go_lst1, go_tup1, go_cal, go_cal1, go_isi, go_isi1, go_seq, go_sRet, go_ret1, go_sExpr, go_ex1, go_sIf, go_sifT, go_sifF, go_optS, go_sAsg, go_asg1, go_sSet, go_set1, go_sPar, go_par1, go_sAug, go_augV, kN_eq, kNil_eq, kCons_eq, kT_eq, rdE_eq, rdO_fz, rdO_ol, ownE_eq, owO_ol, go_binL, go_binL1, go_binL2, oSw_eq, go_binR, go_binR1, go_sPut, go_put1, go_putO, go_put2, go_putP, go_putN, go_retF1, go_fLst, go_fl1, go_sOwn, go_own1, go_call, go_call1, kFR_ok, kFR_exc, go_callIo, go_io0, go_io1, go_io2, kIo_ok, kIo_exc, go_callN, go_calln1, go_calln2, go_okF, go_excF, kRun_next, kRun_ret, kRun_exc, finF_none, finF_some, finS_ol, go_finO, go_finX, go_items, go_items_lst, go_items_tup, go_rng1, go_rng1_ok, go_rng2, go_rng2_ok, go_zip, go_zip_l, go_zip_t, go_enum, go_enum_l, go_sFor, go_for1, kLoop_next, kLoop_cont, kLoop_brk, kLoop_ret, kLoop_exc, turn_next, turn_cont, go_lc, go_lc1, kLc_ok, elem_ok, go_yes, go_sl, go_sl1, go_sl2, go_sl3, go_noP, go_p, go_p1, go_rev, go_rev1, go_chain, go_ch1, go_ch2, go_ch3T, go_ch3F, go_ch4, go_dic, go_dic1, go_prs_nil, go_prs, go_prs1, go_prs2, go_prs3, go_prs4, kW_ok, go_fcall, go_fcall1, kRunW_ok, go_okW, go_cf, go_cf1, oAdd_int, oAdd_bl, atI_0, atI_1, atI_2, atI_3, ixN_0, ixN_1, ixN_2, sz_lit, List.getElem?_cons_zero, List.getElem?_cons_succ, List.set_cons_zero, List.set_cons_succ, List.nil_append, List.cons_append, List.append_nil, List.length_cons, List.length_nil, Nat.reduceSub, Nat.reduceLeDiff, Nat.zero_add, Option.bind_some, Option.map_some, reduceCtorEq, Int.reduceLT, Int.reduceLE, Int.reduceNeg, Int.reducePow, Int.reduceToNat, and_true, true_and, and_self, ite_true, ite_false, if_true, if_false, Bool.not_true, Bool.not_false, Bool.true_and, Bool.false_and, Bool.and_true, Bool.and_false, Bool.true_or, Bool.false_or, oSub, oNeg, oLt, oLe, oGt, oGe, oIs, oIsNot, Vs.isNon, oTru, oBl, oIx, oLen, oAbs, oIntC, oMax2, oMin2, oTupC, oLstC, oSl, keyD, decide_true, decide_false, plainE, fzE, gIx, List.filterMap_cons, List.filterMap_nil, wipeE, restE, List.all_cons, List.all_nil, List.getD_eq_getElem?_getD, Option.getD_some, oMod_ok, oFdiv_ok, oPow_lit, oMul_lit, oRepr_bl, oEq_str, oNe_str, oEq_int, oNe_int, oEq_bl, oNe_bl, oEq_nil, oNe_nil, oIsi_int, oIsi_bool, oIsi_listed, str_beq, e]
    exact lots_6 h (by omega) (by simp only [List.length_append, List.length_cons, List.length_nil]; omega) hK
  · simp only [decide_eq_false hw, k_ok, k_exc, kS_ok, kS_exc, kq_next, kq_ret, kq_brk, kq_cont, kq_exc, kq_retF, go_ok, go_exc, go_next, go_ret, go_brk, go_cont, go_excS, go_retF, go_some, go_v, getV_fz, go_c, go_bin, go_bin1, go_bin2, go_un, go_un1, go_tru, go_tru1, go_bl, go_bl1, go_and, go_andT, go_andF, go_or, go_orT, go_orF, go_not, go_not1, go_andV, go_orV, go_andV1, go_orV1, go_andVT, go_andVF, go_orVT, go_orVF, go_notV, go_notV1, go_notV2, go_if, go_ifT, go_ifF, go_nil, go_cons, go_cons1, go_cons2, go_chk, go_lst, go_tup, go_lst1, go_tup1, go_cal, go_cal1, go_isi, go_isi1, go_seq, go_sRet, go_ret1, go_sExpr, go_ex1, go_sIf, go_sifT, go_sifF, go_optS, go_sAsg, go_asg1, go_sSet, go_set1, go_sPar, go_par1, go_sAug, go_augV, kN_eq, kNil_eq, kCons_eq, kT_eq, rdE_eq, rdO_fz, rdO_ol, ownE_eq, owO_ol, go_binL, go_binL1, go_binL2, oSw_eq, go_binR, go_binR1, go_sPut, go_put1, go_putO, go_put2, go_putP, go_putN, go_retF1, go_fLst, go_fl1, go_sOwn, go_own1, go_call, go_call1, kFR_ok, kFR_exc, go_callIo, go_io0, go_io1, go_io2, kIo_ok, kIo_exc, go_callN, go_calln1, go_calln2, go_okF, go_excF, kRun_next, kRun_ret, kRun_exc, finF_none, finF_some, finS_ol, go_finO, go_finX, go_items, go_items_lst, go_items_tup, go_rng1, go_rng1_ok, go_rng2, go_rng2_ok, go_zip, go_zip_l, go_zip_t, go_enum, go_enum_l, go_sFor, go_for1, kLoop_next, kLoop_cont, kLoop_brk, kLoop_ret, kLoop_exc, turn_next, turn_cont, go_lc, go_lc1, kLc_ok, elem_ok, go_yes, go_sl, go_sl1, go_sl2, go_sl3, go_noP, go_p, go_p1, go_rev, go_rev1, go_chain, go_ch1, go_ch2, go_ch3T, go_ch3F, go_ch4, go_dic, go_dic1, go_prs_nil, go_prs, go_prs1, go_prs2, go_prs3, go_prs4, kW_ok, go_fcall, go_fcall1, kRunW_ok, go_okW, go_cf, go_cf1, oAdd_int, oAdd_bl, atI_0, atI_1, atI_2, atI_3, ixN_0, ixN_1, ixN_2, sz_lit, List.getElem?_cons_zero, List.getElem?_cons_succ, List.set_cons_zero, List.set_cons_succ, List.nil_append, List.cons_append, List.append_nil, List.length_cons, List.length_nil, Nat.reduceSub, Nat.reduceLeDiff, Nat.zero_add, Option.bind_some, Option.map_some, reduceCtorEq, Int.reduceLT, Int.reduceLE, Int.reduceNeg, Int.reducePow, Int.reduceToNat, and_true, true_and, and_self, ite_true, ite_false, if_true, if_false, Bool.not_true, Bool.not_false, Bool.true_and, Bool.false_and, Bool.and_true, Bool.and_false, Bool.true_or, Bool.false_or, oSub, oNeg, oLt, oLe, oGt, oGe, oIs, oIsNot, Vs.isNon, oTru, oBl, oIx, oLen, oAbs, oIntC, oMax2, oMin2, oTupC, oLstC, oSl, keyD, decide_true, decide_false, plainE, fzE, gIx, List.filterMap_cons, List.filterMap_nil, wipeE, restE, List.all_cons, List.all_nil, List.getD_eq_getElem?_getD, Option.getD_some, oMod_ok, oFdiv_ok, oPow_lit, oMul_lit, oRepr_bl, oEq_str, oNe_str, oEq_int, oNe_int, oEq_bl, oNe_bl, oEq_nil, oNe_nil, oIsi_int, oIsi_bool, oIsi_listed, str_beq]
    exact lots_6 h (by omega) (by omega) hK
theorem lots_4 {K : FR → Prop} {n : Nat} {W W0 : List D} {m w : Int} {xs : List D} (h : Wl n W) (hn : n < 2 ^ 17) (hx : xs.length ≤ 150) (hK : ∀ W', Wl (n + 3) W' → K (.ok (.bl true) (some W'))) :
    Go (kRun (some W0) K) (b__law_lots_right_4 (lotE W m w xs)) := by
  unfold b__law_lots_right_4 lotE
  simp only [k_ok, k_exc, kS_ok, kS_exc, kq_next, kq_ret, kq_brk, kq_cont, kq_exc, kq_retF, go_ok, go_exc, go_next, go_ret, go_brk, go_cont, go_excS, go_retF, go_some, go_v, getV_fz, go_c, go_bin, go_bin1, go_bin2, go_un, go_un1, go_tru, go_tru1, go_bl, go_bl1, go_and, go_andT, go_andF, go_or, go_orT, go_orF, go_not, go_not1, go_andV, go_orV, go_andV1, go_orV1, go_andVT, go_andVF, go_orVT, go_orVF, go_notV, go_notV1, go_notV2, go_if, go_ifT, go_ifF, go_nil, go_cons, go_cons1, go_cons2, go_chk, go_lst, go_tup, go_lst1, go_tup1, go_cal, go_cal1, go_isi, go_isi1, go_seq, go_sRet, go_ret1, go_sExpr, go_ex1, go_sIf, go_sifT, go_sifF, go_optS, go_sAsg, go_asg1, go_sSet, go_set1, go_sPar, go_par1, go_sAug, go_augV, kN_eq, kNil_eq, kCons_eq, kT_eq, rdE_eq, rdO_fz, rdO_ol, ownE_eq, owO_ol, go_binL, go_binL1, go_binL2, oSw_eq, go_binR, go_binR1, go_sPut, go_put1, go_putO, go_put2, go_putP, go_putN, go_retF1, go_fLst, go_fl1, go_sOwn, go_own1, go_call, go_call1, kFR_ok, kFR_exc, go_callIo, go_io0, go_io1, go_io2, kIo_ok, kIo_exc, go_callN, go_calln1, go_calln2, go_okF, go_excF, kRun_next, kRun_ret, kRun_exc, finF_none, finF_some, finS_ol, go_finO, go_finX, go_items, go_items_lst, go_items_tup, go_rng1, go_rng1_ok, go_rng2, go_rng2_ok, go_zip, go_zip_l, go_zip_t, go_enum, go_enum_l, go_sFor, go_for1, kLoop_next, kLoop_cont, kLoop_brk, kLoop_ret, kLoop_exc, turn_next, turn_cont, go_lc, go_lc1, kLc_ok, elem_ok, go_yes, go_sl, go_sl1, go_sl2, go_sl3, go_noP, go_p, go_p1, go_rev, go_rev1, go_chain, go_ch1, go_ch2, go_ch3T, go_ch3F, go_ch4, go_dic, go_dic1, go_prs_nil, go_prs, go_prs1, go_prs2, go_prs3, go_prs4, kW_ok, go_fcall, go_fcall1, kRunW_ok, go_okW, go_cf, go_cf1, oAdd_int, oAdd_bl, atI_0, atI_1, atI_2, atI_3, ixN_0, ixN_1, ixN_2, sz_lit, List.getElem?_cons_zero, List.getElem?_cons_succ, List.set_cons_zero, List.set_cons_succ, List.nil_append, List.cons_append, List.append_nil, List.length_cons, List.length_nil, Nat.reduceSub, Nat.reduceLeDiff, Nat.zero_add, Option.bind_some, Option.map_some, reduceCtorEq, Int.reduceLT, Int.reduceLE, Int.reduceNeg, Int.reducePow, Int.reduceToNat, and_true, true_and, and_self, ite_true, ite_false, if_true, if_false, Bool.not_true, Bool.not_false, Bool.true_and, Bool.false_and, Bool.and_true, Bool.and_false, Bool.true_or, Bool.false_or, oSub, oNeg, oLt, oLe, oGt, oGe, oIs, oIsNot, Vs.isNon, oTru, oBl, oIx, oLen, oAbs, oIntC, oMax2, oMin2, oTupC, oLstC, oSl, keyD, decide_true, decide_false, plainE, fzE, gIx, List.filterMap_cons, List.filterMap_nil, wipeE, restE, List.all_cons, List.all_nil, List.getD_eq_getElem?_getD, Option.getD_some, oMod_ok, oFdiv_ok, oPow_lit, oMul_lit, oRepr_bl, oEq_str, oNe_str, oEq_int, oNe_int, oEq_bl, oNe_bl, oEq_nil, oNe_nil, oIsi_int, oIsi_bool, oIsi_listed, str_beq]
  by_cases hw : w = 1
  · simp only [decide_eq_true hw, k_ok, k_exc, kS_ok, kS_exc, kq_next, kq_ret, kq_brk, kq_cont, kq_exc, kq_retF, go_ok, go_exc, go_next, go_ret, go_brk, go_cont, go_excS, go_retF, go_some, go_v, getV_fz, go_c, go_bin, go_bin1, go_bin2, go_un, go_un1, go_tru, go_tru1, go_bl, go_bl1, go_and, go_andT, go_andF, go_or, go_orT, go_orF, go_not, go_not1, go_andV, go_orV, go_andV1, go_orV1, go_andVT, go_andVF, go_orVT, go_orVF, go_notV, go_notV1, go_notV2, go_if, go_ifT, go_ifF, go_nil, go_cons, go_cons1, go_cons2, go_chk, go_lst, go_tup, go_lst1, go_tup1, go_cal, go_cal1, go_isi, go_isi1, go_seq, go_sRet, go_ret1, go_sExpr, go_ex1, go_sIf, go_sifT, go_sifF, go_optS, go_sAsg, go_asg1, go_sSet, go_set1, go_sPar, go_par1, go_sAug, go_augV, kN_eq, kNil_eq, kCons_eq, kT_eq, rdE_eq, rdO_fz, rdO_ol, ownE_eq, owO_ol, go_binL, go_binL1, go_binL2, oSw_eq, go_binR, go_binR1, go_sPut, go_put1, go_putO, go_put2, go_putP, go_putN, go_retF1, go_fLst, go_fl1, go_sOwn, go_own1, go_call, go_call1, kFR_ok, kFR_exc, go_callIo, go_io0, go_io1, go_io2, kIo_ok, kIo_exc, go_callN, go_calln1, go_calln2, go_okF, go_excF, kRun_next, kRun_ret, kRun_exc, finF_none, finF_some, finS_ol, go_finO, go_finX, go_items, go_items_lst, go_items_tup, go_rng1, go_rng1_ok, go_rng2, go_rng2_ok, go_zip, go_zip_l, go_zip_t, go_enum, go_enum_l, go_sFor, go_for1, kLoop_next, kLoop_cont, kLoop_brk, kLoop_ret, kLoop_exc, turn_next, turn_cont, go_lc, go_lc1, kLc_ok, elem_ok, go_yes, go_sl, go_sl1, go_sl2, go_sl3, go_noP, go_p, go_p1, go_rev, go_rev1, go_chain, go_ch1, go_ch2, go_ch3T, go_ch3F, go_ch4, go_dic, go_dic1, go_prs_nil, go_prs, go_prs1, go_prs2, go_prs3, go_prs4, kW_ok, go_fcall, go_fcall1, kRunW_ok, go_okW, go_cf, go_cf1, oAdd_int, oAdd_bl, atI_0, atI_1, atI_2, atI_3, ixN_0, ixN_1, ixN_2, sz_lit, List.getElem?_cons_zero, List.getElem?_cons_succ, List.set_cons_zero, List.set_cons_succ, List.nil_append, List.cons_append, List.append_nil, List.length_cons, List.length_nil, Nat.reduceSub, Nat.reduceLeDiff, Nat.zero_add, Option.bind_some, Option.map_some, reduceCtorEq, Int.reduceLT, Int.reduceLE, Int.reduceNeg, Int.reducePow, Int.reduceToNat, and_true, true_and, and_self, ite_true, ite_false, if_true, if_false, Bool.not_true, Bool.not_false, Bool.true_and, Bool.false_and, Bool.and_true, Bool.and_false, Bool.true_or, Bool.false_or, oSub, oNeg, oLt, oLe, oGt, oGe, oIs, oIsNot, Vs.isNon, oTru, oBl, oIx, oLen, oAbs, oIntC, oMax2, oMin2, oTupC, oLstC, oSl, keyD, decide_true, decide_false, plainE, fzE, gIx, List.filterMap_cons, List.filterMap_nil, wipeE, restE, List.all_cons, List.all_nil, List.getD_eq_getElem?_getD, Option.getD_some, oMod_ok, oFdiv_ok, oPow_lit, oMul_lit, oRepr_bl, oEq_str, oNe_str, oEq_int, oNe_int, oEq_bl, oNe_bl, oEq_nil, oNe_nil, oIsi_int, oIsi_bool, oIsi_listed, str_beq]
    by_cases hxs : xs = []
    · subst hxs
      simp only [List.isEmpty_nil, k_ok, k_exc, kS_ok, kS_exc, kq_next, kq_ret, kq_brk, kq_cont, kq_exc, kq_retF, go_ok, go_exc, go_next, go_ret, go_brk, go_cont, go_excS, go_retF, go_some, go_v, getV_fz, go_c, go_bin, go_bin1, go_bin2, go_un, go_un1, go_tru, go_tru1, go_bl, go_bl1, go_and, go_andT, go_andF, go_or, go_orT, go_orF, go_not, go_not1, go_andV, go_orV, go_andV1, go_orV1, go_andVT, go_andVF, go_orVT, go_orVF, go_notV, go_notV1, go_notV2, go_if, go_ifT, go_ifF, go_nil, go_cons, go_cons1, go_cons2, go_chk, go_lst, go_tup, go_lst1, go_tup1, go_cal, go_cal1, go_isi, go_isi1, go_seq, go_sRet, go_ret1, go_sExpr, go_ex1, go_sIf, go_sifT, go_sifF, go_optS, go_sAsg, go_asg1, go_sSet, go_set1, go_sPar, go_par1, go_sAug, go_augV, kN_eq, kNil_eq, kCons_eq, kT_eq, rdE_eq, rdO_fz, rdO_ol, ownE_eq, owO_ol, go_binL, go_binL1, go_binL2, oSw_eq, go_binR, go_binR1, go_sPut, go_put1, go_putO, go_put2, go_putP, go_putN, go_retF1, go_fLst, go_fl1, go_sOwn, go_own1, go_call, go_call1, kFR_ok, kFR_exc, go_callIo, go_io0, go_io1, go_io2, kIo_ok, kIo_exc, go_callN, go_calln1, go_calln2, go_okF, go_excF, kRun_next, kRun_ret, kRun_exc, finF_none, finF_some, finS_ol, go_finO, go_finX, go_items, go_items_lst, go_items_tup, go_rng1, go_rng1_ok, go_rng2, go_rng2_ok, go_zip, go_zip_l, go_zip_t, go_enum, go_enum_l, go_sFor, go_for1, kLoop_next, kLoop_cont, kLoop_brk, kLoop_ret, kLoop_exc, turn_next, turn_cont, go_lc, go_lc1, kLc_ok, elem_ok, go_yes, go_sl, go_sl1, go_sl2, go_sl3, go_noP, go_p, go_p1, go_rev, go_rev1, go_chain, go_ch1, go_ch2, go_ch3T, go_ch3F, go_ch4, go_dic, go_dic1, go_prs_nil, go_prs, go_prs1, go_prs2, go_prs3, go_prs4, kW_ok, go_fcall, go_fcall1, kRunW_ok, go_okW, go_cf, go_cf1, oAdd_int, oAdd_bl, atI_0, atI_1, atI_2, atI_3, ixN_0, ixN_1, ixN_2, sz_lit, List.getElem?_cons_zero, List.getElem?_cons_succ, List.set_cons_zero, List.set_cons_succ, List.nil_append, List.cons_append, List.append_nil, List.length_cons, List.length_nil, Nat.reduceSub, Nat.reduceLeDiff, Nat.zero_add, Option.bind_some, Option.map_some, reduceCtorEq, Int.reduceLT, Int.reduceLE, Int.reduceNeg, Int.reducePow, Int.reduceToNat, and_true, true_and, and_self, ite_true, ite_false, if_true, if_false, Bool.not_true, Bool.not_false, Bool.true_and, Bool.false_and, Bool.and_true, Bool.and_false, Bool.true_or, Bool.false_or, oSub, oNeg, oLt, oLe, oGt, oGe, oIs, oIsNot, Vs.isNon, oTru, oBl, oIx, oLen, oAbs, oIntC, oMax2, oMin2, oTupC, oLstC, oSl, keyD, decide_true, decide_false, plainE, fzE, gIx, List.filterMap_cons, List.filterMap_nil, wipeE, restE, List.all_cons, List.all_nil, List.getD_eq_getElem?_getD, Option.getD_some, oMod_ok, oFdiv_ok, oPow_lit, oMul_lit, oRepr_bl, oEq_str, oNe_str, oEq_int, oNe_int, oEq_bl, oNe_bl, oEq_nil, oNe_nil, oIsi_int, oIsi_bool, oIsi_listed, str_beq]
      exact lots_5 h (by omega) (by simp) hK
    · have hie : xs.isEmpty = false := by cases xs <;> simp_all
      obtain ⟨d, hd⟩ := atI_last hxs
      have e := oAdd_lst (xs := xs) (ys := [d]) (by simp only [List.length_cons, List.length_nil]; omega)
      simp only [hie, k_ok, k_exc, kS_ok, kS_exc, kq_next, kq_ret, kq_brk, kq_cont, kq_exc, kq_retF, go_ok, go_exc, go_next, go_ret, go_brk, go_cont, go_excS, go_retF, go_some, go_v, getV_fz, go_c, go_bin, go_bin1, go_bin2, go_un, go_un1, go_tru, go_tru1, go_bl, go_bl1, go_and, go_andT, go_andF, go_or, go_orT, go_orF, go_not, go_not1, go_andV, go_orV, go_andV1, go_orV1, go_andVT, go_andVF, go_orVT, go_orVF, go_notV, go_notV1, go_notV2, go_if, go_ifT, go_ifF, go_nil, go_cons, go_cons1, go_cons2, go_chk, go_lst, go_tup, go_lst1, go_tup1, go_cal, go_cal1, go_isi, go_isi1, go_seq, go_sRet, go_ret1, go_sExpr, go_ex1, go_sIf, go_sifT, go_sifF, go_optS, go_sAsg, go_asg1, go_sSet, go_set1, go_sPar, go_par1, go_sAug, go_augV, kN_eq, kNil_eq, kCons_eq, kT_eq, rdE_eq, rdO_fz, rdO_ol, ownE_eq, owO_ol, go_binL, go_binL1, go_binL2, oSw_eq, go_binR, go_binR1, go_sPut, go_put1, go_putO, go_put2, go_putP, go_putN, go_retF1, go_fLst, go_fl1, go_sOwn, go_own1, go_call, go_call1, kFR_ok, kFR_exc, go_callIo, go_io0, go_io1, go_io2, kIo_ok, kIo_exc, go_callN, go_calln1, go_calln2, go_okF, go_excF, kRun_next, kRun_ret, kRun_exc, finF_none, finF_some, finS_ol, go_finO, go_finX, go_items, go_items_lst, go_items_tup, go_rng1, go_rng1_ok, go_rng2, go_rng2_ok, go_zip, go_zip_l, go_zip_t, go_enum, go_enum_l, go_sFor, go_for1, kLoop_next, kLoop_cont, kLoop_brk, kLoop_ret, kLoop_exc, turn_next, turn_cont, go_lc, go_lc1, kLc_ok, elem_ok, go_yes, go_sl, go_sl1, go_sl2, go_sl3, go_noP, go_p, go_p1, go_rev, go_rev1, go_chain, go_ch1, go_ch2, go_ch3T, go_ch3F, go_ch4, go_dic, go_dic1, go_prs_nil, go_prs, go_prs1, go_prs2, go_prs3, go_prs4, kW_ok, go_fcall, go_fcall1, kRunW_ok, go_okW, go_cf, go_cf1, oAdd_int, oAdd_bl, atI_0, atI_1, atI_2, atI_3, ixN_0, ixN_1, ixN_2, sz_lit, List.getElem?_cons_zero, List.getElem?_cons_succ, List.set_cons_zero, List.set_cons_succ, List.nil_append, List.cons_append, List.append_nil, List.length_cons, List.length_nil, Nat.reduceSub, Nat.reduceLeDiff, Nat.zero_add, Option.bind_some, Option.map_some, reduceCtorEq, Int.reduceLT, Int.reduceLE, Int.reduceNeg, Int.reducePow, Int.reduceToNat, and_true, true_and, and_self, ite_true, ite_false, if_true, if_false, Bool.not_true, Bool.not_false, Bool.true_and, Bool.false_and, Bool.and_true, Bool.and_false, Bool.true_or, Bool.false_or, oSub, oNeg, oLt, oLe, oGt, oGe, oIs, oIsNot, Vs.isNon, oTru, oBl, oIx, oLen, oAbs, oIntC, oMax2, oMin2, oTupC, oLstC, oSl, keyD, decide_true, decide_false, plainE, fzE, gIx, List.filterMap_cons, List.filterMap_nil, wipeE, restE, List.all_cons, List.all_nil, List.getD_eq_getElem?_getD, Option.getD_some, oMod_ok, oFdiv_ok, oPow_lit, oMul_lit, oRepr_bl, oEq_str, oNe_str, oEq_int, oNe_int, oEq_bl, oNe_bl, oEq_nil, oNe_nil, oIsi_int, oIsi_bool, oIsi_listed, str_beq, hd, e]
      exact lots_5 h (by omega) (by simp only [List.length_append, List.length_cons, List.length_nil]; omega) hK
  · simp only [decide_eq_false hw, k_ok, k_exc, kS_ok, kS_exc, kq_next, kq_ret, kq_brk, kq_cont, kq_exc, kq_retF, go_ok, go_exc, go_next, go_ret, go_brk, go_cont, go_excS, go_retF, go_some, go_v, getV_fz, go_c, go_bin, go_bin1, go_bin2, go_un, go_un1, go_tru, go_tru1, go_bl, go_bl1, go_and, go_andT, go_andF, go_or, go_orT, go_orF, go_not, go_not1, go_andV, go_orV, go_andV1, go_orV1, go_andVT, go_andVF, go_orVT, go_orVF, go_notV, go_notV1, go_notV2, go_if, go_ifT, go_ifF, go_nil, go_cons, go_cons1, go_cons2, go_chk, go_lst, go_tup, go_lst1, go_tup1, go_cal, go_cal1, go_isi, go_isi1, go_seq, go_sRet, go_ret1, go_sExpr, go_ex1, go_sIf, go_sifT, go_sifF, go_optS, go_sAsg, go_asg1, go_sSet, go_set1, go_sPar, go_par1, go_sAug, go_augV, kN_eq, kNil_eq, kCons_eq, kT_eq, rdE_eq, rdO_fz, rdO_ol, ownE_eq, owO_ol, go_binL, go_binL1, go_binL2, oSw_eq, go_binR, go_binR1, go_sPut, go_put1, go_putO, go_put2, go_putP, go_putN, go_retF1, go_fLst, go_fl1, go_sOwn, go_own1, go_call, go_call1, kFR_ok, kFR_exc, go_callIo, go_io0, go_io1, go_io2, kIo_ok, kIo_exc, go_callN, go_calln1, go_calln2, go_okF, go_excF, kRun_next, kRun_ret, kRun_exc, finF_none, finF_some, finS_ol, go_finO, go_finX, go_items, go_items_lst, go_items_tup, go_rng1, go_rng1_ok, go_rng2, go_rng2_ok, go_zip, go_zip_l, go_zip_t, go_enum, go_enum_l, go_sFor, go_for1, kLoop_next, kLoop_cont, kLoop_brk, kLoop_ret, kLoop_exc, turn_next, turn_cont, go_lc, go_lc1, kLc_ok, elem_ok, go_yes, go_sl, go_sl1, go_sl2, go_sl3, go_noP, go_p, go_p1, go_rev, go_rev1, go_chain, go_ch1, go_ch2, go_ch3T, go_ch3F, go_ch4, go_dic, go_dic1, go_prs_nil, go_prs, go_prs1, go_prs2, go_prs3, go_prs4, kW_ok, go_fcall, go_fcall1, kRunW_ok, go_okW, go_cf, go_cf1, oAdd_int, oAdd_bl, atI_0, atI_1, atI_2, atI_3, ixN_0, ixN_1, ixN_2, sz_lit, List.getElem?_cons_zero, List.getElem?_cons_succ, List.set_cons_zero, List.set_cons_succ, List.nil_append, List.cons_append, List.append_nil, List.length_cons, List.length_nil, Nat.reduceSub, Nat.reduceLeDiff, Nat.zero_add, Option.bind_some, Option.map_some, reduceCtorEq, Int.reduceLT, Int.reduceLE, Int.reduceNeg, Int.reducePow, Int.reduceToNat, and_true, true_and, and_self, ite_true, ite_false, if_true, if_false, Bool.not_true, Bool.not_false, Bool.true_and, Bool.false_and, Bool.and_true, Bool.and_false, Bool.true_or, Bool.false_or, oSub, oNeg, oLt, oLe, oGt, oGe, oIs, oIsNot, Vs.isNon, oTru, oBl, oIx, oLen, oAbs, oIntC, oMax2, oMin2, oTupC, oLstC, oSl, keyD, decide_true, decide_false, plainE, fzE, gIx, List.filterMap_cons, List.filterMap_nil, wipeE, restE, List.all_cons, List.all_nil, List.getD_eq_getElem?_getD, Option.getD_some, oMod_ok, oFdiv_ok, oPow_lit, oMul_lit, oRepr_bl, oEq_str, oNe_str, oEq_int, oNe_int, oEq_bl, oNe_bl, oEq_nil, oNe_nil, oIsi_int, oIsi_bool, oIsi_listed, str_beq]
    exact lots_5 h (by omega) (by omega) hK
theorem lots_3 {K : FR → Prop} {n : Nat} {W W0 : List D} {m w : Int} {xs : List D} (h : Wl n W) (hn : n < 2 ^ 17) (hx : xs.length ≤ 100) (hK : ∀ W', Wl (n + 3) W' → K (.ok (.bl true) (some W'))) :
    Go (kRun (some W0) K) (b__law_lots_right_3 (lotE W m w xs)) := by
  unfold b__law_lots_right_3 lotE
  simp only [k_ok, k_exc, kS_ok, kS_exc, kq_next, kq_ret, kq_brk, kq_cont, kq_exc, kq_retF, go_ok, go_exc, go_next, go_ret, go_brk, go_cont, go_excS, go_retF, go_some, go_v, getV_fz, go_c, go_bin, go_bin1, go_bin2, go_un, go_un1, go_tru, go_tru1, go_bl, go_bl1, go_and, go_andT, go_andF, go_or, go_orT, go_orF, go_not, go_not1, go_andV, go_orV, go_andV1, go_orV1, go_andVT, go_andVF, go_orVT, go_orVF, go_notV, go_notV1, go_notV2, go_if, go_ifT, go_ifF, go_nil, go_cons, go_cons1, go_cons2, go_chk, go_lst, go_tup, go_lst1, go_tup1, go_cal, go_cal1, go_isi, go_isi1, go_seq, go_sRet, go_ret1, go_sExpr, go_ex1, go_sIf, go_sifT, go_sifF, go_optS, go_sAsg, go_asg1, go_sSet, go_set1, go_sPar, go_par1, go_sAug, go_augV, kN_eq, kNil_eq, kCons_eq, kT_eq, rdE_eq, rdO_fz, rdO_ol, ownE_eq, owO_ol, go_binL, go_binL1, go_binL2, oSw_eq, go_binR, go_binR1, go_sPut, go_put1, go_putO, go_put2, go_putP, go_putN, go_retF1, go_fLst, go_fl1, go_sOwn, go_own1, go_call, go_call1, kFR_ok, kFR_exc, go_callIo, go_io0, go_io1, go_io2, kIo_ok, kIo_exc, go_callN, go_calln1, go_calln2, go_okF, go_excF, kRun_next, kRun_ret, kRun_exc, finF_none, finF_some, finS_ol, go_finO, go_finX, go_items, go_items_lst, go_items_tup, go_rng1, go_rng1_ok, go_rng2, go_rng2_ok, go_zip, go_zip_l, go_zip_t, go_enum, go_enum_l, go_sFor, go_for1, kLoop_next, kLoop_cont, kLoop_brk, kLoop_ret, kLoop_exc, turn_next, turn_cont, go_lc, go_lc1, kLc_ok, elem_ok, go_yes, go_sl, go_sl1, go_sl2, go_sl3, go_noP, go_p, go_p1, go_rev, go_rev1, go_chain, go_ch1, go_ch2, go_ch3T, go_ch3F, go_ch4, go_dic, go_dic1, go_prs_nil, go_prs, go_prs1, go_prs2, go_prs3, go_prs4, kW_ok, go_fcall, go_fcall1, kRunW_ok, go_okW, go_cf, go_cf1, oAdd_int, oAdd_bl, atI_0, atI_1, atI_2, atI_3, ixN_0, ixN_1, ixN_2, sz_lit, List.getElem?_cons_zero, List.getElem?_cons_succ, List.set_cons_zero, List.set_cons_succ, List.nil_append, List.cons_append, List.append_nil, List.length_cons, List.length_nil, Nat.reduceSub, Nat.reduceLeDiff, Nat.zero_add, Option.bind_some, Option.map_some, reduceCtorEq, Int.reduceLT, Int.reduceLE, Int.reduceNeg, Int.reducePow, Int.reduceToNat, and_true, true_and, and_self, ite_true, ite_false, if_true, if_false, Bool.not_true, Bool.not_false, Bool.true_and, Bool.false_and, Bool.and_true, Bool.and_false, Bool.true_or, Bool.false_or, oSub, oNeg, oLt, oLe, oGt, oGe, oIs, oIsNot, Vs.isNon, oTru, oBl, oIx, oLen, oAbs, oIntC, oMax2, oMin2, oTupC, oLstC, oSl, keyD, decide_true, decide_false, plainE, fzE, gIx, List.filterMap_cons, List.filterMap_nil, wipeE, restE, List.all_cons, List.all_nil, List.getD_eq_getElem?_getD, Option.getD_some, oMod_ok, oFdiv_ok, oPow_lit, oMul_lit, oRepr_bl, oEq_str, oNe_str, oEq_int, oNe_int, oEq_bl, oNe_bl, oEq_nil, oNe_nil, oIsi_int, oIsi_bool, oIsi_listed, str_beq]
  by_cases hw : w = 0
  · simp only [decide_eq_true hw, k_ok, k_exc, kS_ok, kS_exc, kq_next, kq_ret, kq_brk, kq_cont, kq_exc, kq_retF, go_ok, go_exc, go_next, go_ret, go_brk, go_cont, go_excS, go_retF, go_some, go_v, getV_fz, go_c, go_bin, go_bin1, go_bin2, go_un, go_un1, go_tru, go_tru1, go_bl, go_bl1, go_and, go_andT, go_andF, go_or, go_orT, go_orF, go_not, go_not1, go_andV, go_orV, go_andV1, go_orV1, go_andVT, go_andVF, go_orVT, go_orVF, go_notV, go_notV1, go_notV2, go_if, go_ifT, go_ifF, go_nil, go_cons, go_cons1, go_cons2, go_chk, go_lst, go_tup, go_lst1, go_tup1, go_cal, go_cal1, go_isi, go_isi1, go_seq, go_sRet, go_ret1, go_sExpr, go_ex1, go_sIf, go_sifT, go_sifF, go_optS, go_sAsg, go_asg1, go_sSet, go_set1, go_sPar, go_par1, go_sAug, go_augV, kN_eq, kNil_eq, kCons_eq, kT_eq, rdE_eq, rdO_fz, rdO_ol, ownE_eq, owO_ol, go_binL, go_binL1, go_binL2, oSw_eq, go_binR, go_binR1, go_sPut, go_put1, go_putO, go_put2, go_putP, go_putN, go_retF1, go_fLst, go_fl1, go_sOwn, go_own1, go_call, go_call1, kFR_ok, kFR_exc, go_callIo, go_io0, go_io1, go_io2, kIo_ok, kIo_exc, go_callN, go_calln1, go_calln2, go_okF, go_excF, kRun_next, kRun_ret, kRun_exc, finF_none, finF_some, finS_ol, go_finO, go_finX, go_items, go_items_lst, go_items_tup, go_rng1, go_rng1_ok, go_rng2, go_rng2_ok, go_zip, go_zip_l, go_zip_t, go_enum, go_enum_l, go_sFor, go_for1, kLoop_next, kLoop_cont, kLoop_brk, kLoop_ret, kLoop_exc, turn_next, turn_cont, go_lc, go_lc1, kLc_ok, elem_ok, go_yes, go_sl, go_sl1, go_sl2, go_sl3, go_noP, go_p, go_p1, go_rev, go_rev1, go_chain, go_ch1, go_ch2, go_ch3T, go_ch3F, go_ch4, go_dic, go_dic1, go_prs_nil, go_prs, go_prs1, go_prs2, go_prs3, go_prs4, kW_ok, go_fcall, go_fcall1, kRunW_ok, go_okW, go_cf, go_cf1, oAdd_int, oAdd_bl, atI_0, atI_1, atI_2, atI_3, ixN_0, ixN_1, ixN_2, sz_lit, List.getElem?_cons_zero, List.getElem?_cons_succ, List.set_cons_zero, List.set_cons_succ, List.nil_append, List.cons_append, List.append_nil, List.length_cons, List.length_nil, Nat.reduceSub, Nat.reduceLeDiff, Nat.zero_add, Option.bind_some, Option.map_some, reduceCtorEq, Int.reduceLT, Int.reduceLE, Int.reduceNeg, Int.reducePow, Int.reduceToNat, and_true, true_and, and_self, ite_true, ite_false, if_true, if_false, Bool.not_true, Bool.not_false, Bool.true_and, Bool.false_and, Bool.and_true, Bool.and_false, Bool.true_or, Bool.false_or, oSub, oNeg, oLt, oLe, oGt, oGe, oIs, oIsNot, Vs.isNon, oTru, oBl, oIx, oLen, oAbs, oIntC, oMax2, oMin2, oTupC, oLstC, oSl, keyD, decide_true, decide_false, plainE, fzE, gIx, List.filterMap_cons, List.filterMap_nil, wipeE, restE, List.all_cons, List.all_nil, List.getD_eq_getElem?_getD, Option.getD_some, oMod_ok, oFdiv_ok, oPow_lit, oMul_lit, oRepr_bl, oEq_str, oNe_str, oEq_int, oNe_int, oEq_bl, oNe_bl, oEq_nil, oNe_nil, oIsi_int, oIsi_bool, oIsi_listed, str_beq]
    exact lots_4 h (by omega) (by rw [List.length_reverse]; omega) hK
  · simp only [decide_eq_false hw, k_ok, k_exc, kS_ok, kS_exc, kq_next, kq_ret, kq_brk, kq_cont, kq_exc, kq_retF, go_ok, go_exc, go_next, go_ret, go_brk, go_cont, go_excS, go_retF, go_some, go_v, getV_fz, go_c, go_bin, go_bin1, go_bin2, go_un, go_un1, go_tru, go_tru1, go_bl, go_bl1, go_and, go_andT, go_andF, go_or, go_orT, go_orF, go_not, go_not1, go_andV, go_orV, go_andV1, go_orV1, go_andVT, go_andVF, go_orVT, go_orVF, go_notV, go_notV1, go_notV2, go_if, go_ifT, go_ifF, go_nil, go_cons, go_cons1, go_cons2, go_chk, go_lst, go_tup, go_lst1, go_tup1, go_cal, go_cal1, go_isi, go_isi1, go_seq, go_sRet, go_ret1, go_sExpr, go_ex1, go_sIf, go_sifT, go_sifF, go_optS, go_sAsg, go_asg1, go_sSet, go_set1, go_sPar, go_par1, go_sAug, go_augV, kN_eq, kNil_eq, kCons_eq, kT_eq, rdE_eq, rdO_fz, rdO_ol, ownE_eq, owO_ol, go_binL, go_binL1, go_binL2, oSw_eq, go_binR, go_binR1, go_sPut, go_put1, go_putO, go_put2, go_putP, go_putN, go_retF1, go_fLst, go_fl1, go_sOwn, go_own1, go_call, go_call1, kFR_ok, kFR_exc, go_callIo, go_io0, go_io1, go_io2, kIo_ok, kIo_exc, go_callN, go_calln1, go_calln2, go_okF, go_excF, kRun_next, kRun_ret, kRun_exc, finF_none, finF_some, finS_ol, go_finO, go_finX, go_items, go_items_lst, go_items_tup, go_rng1, go_rng1_ok, go_rng2, go_rng2_ok, go_zip, go_zip_l, go_zip_t, go_enum, go_enum_l, go_sFor, go_for1, kLoop_next, kLoop_cont, kLoop_brk, kLoop_ret, kLoop_exc, turn_next, turn_cont, go_lc, go_lc1, kLc_ok, elem_ok, go_yes, go_sl, go_sl1, go_sl2, go_sl3, go_noP, go_p, go_p1, go_rev, go_rev1, go_chain, go_ch1, go_ch2, go_ch3T, go_ch3F, go_ch4, go_dic, go_dic1, go_prs_nil, go_prs, go_prs1, go_prs2, go_prs3, go_prs4, kW_ok, go_fcall, go_fcall1, kRunW_ok, go_okW, go_cf, go_cf1, oAdd_int, oAdd_bl, atI_0, atI_1, atI_2, atI_3, ixN_0, ixN_1, ixN_2, sz_lit, List.getElem?_cons_zero, List.getElem?_cons_succ, List.set_cons_zero, List.set_cons_succ, List.nil_append, List.cons_append, List.append_nil, List.length_cons, List.length_nil, Nat.reduceSub, Nat.reduceLeDiff, Nat.zero_add, Option.bind_some, Option.map_some, reduceCtorEq, Int.reduceLT, Int.reduceLE, Int.reduceNeg, Int.reducePow, Int.reduceToNat, and_true, true_and, and_self, ite_true, ite_false, if_true, if_false, Bool.not_true, Bool.not_false, Bool.true_and, Bool.false_and, Bool.and_true, Bool.and_false, Bool.true_or, Bool.false_or, oSub, oNeg, oLt, oLe, oGt, oGe, oIs, oIsNot, Vs.isNon, oTru, oBl, oIx, oLen, oAbs, oIntC, oMax2, oMin2, oTupC, oLstC, oSl, keyD, decide_true, decide_false, plainE, fzE, gIx, List.filterMap_cons, List.filterMap_nil, wipeE, restE, List.all_cons, List.all_nil, List.getD_eq_getElem?_getD, Option.getD_some, oMod_ok, oFdiv_ok, oPow_lit, oMul_lit, oRepr_bl, oEq_str, oNe_str, oEq_int, oNe_int, oEq_bl, oNe_bl, oEq_nil, oNe_nil, oIsi_int, oIsi_bool, oIsi_listed, str_beq]
    exact lots_4 h (by omega) (by omega) hK
theorem lots_go {K : FR → Prop} {n : Nat} {W : List D} (h : Wl n W) (hn : n < 2 ^ 16) (hK : ∀ W', Wl (n + 11) W' → K (.ok (.bl true) (some W'))) : Go K (F__law_lots_right (some W) []) := by
  rw [run__law_lots_right]; unfold b__law_lots_right
  simp only [k_ok, k_exc, kS_ok, kS_exc, kq_next, kq_ret, kq_brk, kq_cont, kq_exc, kq_retF, go_ok, go_exc, go_next, go_ret, go_brk, go_cont, go_excS, go_retF, go_some, go_v, getV_fz, go_c, go_bin, go_bin1, go_bin2, go_un, go_un1, go_tru, go_tru1, go_bl, go_bl1, go_and, go_andT, go_andF, go_or, go_orT, go_orF, go_not, go_not1, go_andV, go_orV, go_andV1, go_orV1, go_andVT, go_andVF, go_orVT, go_orVF, go_notV, go_notV1, go_notV2, go_if, go_ifT, go_ifF, go_nil, go_cons, go_cons1, go_cons2, go_chk, go_lst, go_tup, go_lst1, go_tup1, go_cal, go_cal1, go_isi, go_isi1, go_seq, go_sRet, go_ret1, go_sExpr, go_ex1, go_sIf, go_sifT, go_sifF, go_optS, go_sAsg, go_asg1, go_sSet, go_set1, go_sPar, go_par1, go_sAug, go_augV, kN_eq, kNil_eq, kCons_eq, kT_eq, rdE_eq, rdO_fz, rdO_ol, ownE_eq, owO_ol, go_binL, go_binL1, go_binL2, oSw_eq, go_binR, go_binR1, go_sPut, go_put1, go_putO, go_put2, go_putP, go_putN, go_retF1, go_fLst, go_fl1, go_sOwn, go_own1, go_call, go_call1, kFR_ok, kFR_exc, go_callIo, go_io0, go_io1, go_io2, kIo_ok, kIo_exc, go_callN, go_calln1, go_calln2, go_okF, go_excF, kRun_next, kRun_ret, kRun_exc, finF_none, finF_some, finS_ol, go_finO, go_finX, go_items, go_items_lst, go_items_tup, go_rng1, go_rng1_ok, go_rng2, go_rng2_ok, go_zip, go_zip_l, go_zip_t, go_enum, go_enum_l, go_sFor, go_for1, kLoop_next, kLoop_cont, kLoop_brk, kLoop_ret, kLoop_exc, turn_next, turn_cont, go_lc, go_lc1, kLc_ok, elem_ok, go_yes, go_sl, go_sl1, go_sl2, go_sl3, go_noP, go_p, go_p1, go_rev, go_rev1, go_chain, go_ch1, go_ch2, go_ch3T, go_ch3F, go_ch4, go_dic, go_dic1, go_prs_nil, go_prs, go_prs1, go_prs2, go_prs3, go_prs4, kW_ok, go_fcall, go_fcall1, kRunW_ok, go_okW, go_cf, go_cf1, oAdd_int, oAdd_bl, atI_0, atI_1, atI_2, atI_3, ixN_0, ixN_1, ixN_2, sz_lit, List.getElem?_cons_zero, List.getElem?_cons_succ, List.set_cons_zero, List.set_cons_succ, List.nil_append, List.cons_append, List.append_nil, List.length_cons, List.length_nil, Nat.reduceSub, Nat.reduceLeDiff, Nat.zero_add, Option.bind_some, Option.map_some, reduceCtorEq, Int.reduceLT, Int.reduceLE, Int.reduceNeg, Int.reducePow, Int.reduceToNat, and_true, true_and, and_self, ite_true, ite_false, if_true, if_false, Bool.not_true, Bool.not_false, Bool.true_and, Bool.false_and, Bool.and_true, Bool.and_false, Bool.true_or, Bool.false_or, oSub, oNeg, oLt, oLe, oGt, oGe, oIs, oIsNot, Vs.isNon, oTru, oBl, oIx, oLen, oAbs, oIntC, oMax2, oMin2, oTupC, oLstC, oSl, keyD, decide_true, decide_false, plainE, fzE, gIx, List.filterMap_cons, List.filterMap_nil, wipeE, restE, List.all_cons, List.all_nil, List.getD_eq_getElem?_getD, Option.getD_some, oMod_ok, oFdiv_ok, oPow_lit, oMul_lit, oRepr_bl, oEq_str, oNe_str, oEq_int, oNe_int, oEq_bl, oNe_bl, oEq_nil, oNe_nil, oIsi_int, oIsi_bool, oIsi_listed, str_beq]
  refine draws _ n W _ h (by omega) (by omega) (by omega) fun W1 m h1 hm0 hm1 => ?_
  have hr : -(2 ^ 62) ≤ m ∧ m < 2 ^ 62 := by omega
  simp only [k_ok, k_exc, kS_ok, kS_exc, kq_next, kq_ret, kq_brk, kq_cont, kq_exc, kq_retF, go_ok, go_exc, go_next, go_ret, go_brk, go_cont, go_excS, go_retF, go_some, go_v, getV_fz, go_c, go_bin, go_bin1, go_bin2, go_un, go_un1, go_tru, go_tru1, go_bl, go_bl1, go_and, go_andT, go_andF, go_or, go_orT, go_orF, go_not, go_not1, go_andV, go_orV, go_andV1, go_orV1, go_andVT, go_andVF, go_orVT, go_orVF, go_notV, go_notV1, go_notV2, go_if, go_ifT, go_ifF, go_nil, go_cons, go_cons1, go_cons2, go_chk, go_lst, go_tup, go_lst1, go_tup1, go_cal, go_cal1, go_isi, go_isi1, go_seq, go_sRet, go_ret1, go_sExpr, go_ex1, go_sIf, go_sifT, go_sifF, go_optS, go_sAsg, go_asg1, go_sSet, go_set1, go_sPar, go_par1, go_sAug, go_augV, kN_eq, kNil_eq, kCons_eq, kT_eq, rdE_eq, rdO_fz, rdO_ol, ownE_eq, owO_ol, go_binL, go_binL1, go_binL2, oSw_eq, go_binR, go_binR1, go_sPut, go_put1, go_putO, go_put2, go_putP, go_putN, go_retF1, go_fLst, go_fl1, go_sOwn, go_own1, go_call, go_call1, kFR_ok, kFR_exc, go_callIo, go_io0, go_io1, go_io2, kIo_ok, kIo_exc, go_callN, go_calln1, go_calln2, go_okF, go_excF, kRun_next, kRun_ret, kRun_exc, finF_none, finF_some, finS_ol, go_finO, go_finX, go_items, go_items_lst, go_items_tup, go_rng1, go_rng1_ok, go_rng2, go_rng2_ok, go_zip, go_zip_l, go_zip_t, go_enum, go_enum_l, go_sFor, go_for1, kLoop_next, kLoop_cont, kLoop_brk, kLoop_ret, kLoop_exc, turn_next, turn_cont, go_lc, go_lc1, kLc_ok, elem_ok, go_yes, go_sl, go_sl1, go_sl2, go_sl3, go_noP, go_p, go_p1, go_rev, go_rev1, go_chain, go_ch1, go_ch2, go_ch3T, go_ch3F, go_ch4, go_dic, go_dic1, go_prs_nil, go_prs, go_prs1, go_prs2, go_prs3, go_prs4, kW_ok, go_fcall, go_fcall1, kRunW_ok, go_okW, go_cf, go_cf1, oAdd_int, oAdd_bl, atI_0, atI_1, atI_2, atI_3, ixN_0, ixN_1, ixN_2, sz_lit, List.getElem?_cons_zero, List.getElem?_cons_succ, List.set_cons_zero, List.set_cons_succ, List.nil_append, List.cons_append, List.append_nil, List.length_cons, List.length_nil, Nat.reduceSub, Nat.reduceLeDiff, Nat.zero_add, Option.bind_some, Option.map_some, reduceCtorEq, Int.reduceLT, Int.reduceLE, Int.reduceNeg, Int.reducePow, Int.reduceToNat, and_true, true_and, and_self, ite_true, ite_false, if_true, if_false, Bool.not_true, Bool.not_false, Bool.true_and, Bool.false_and, Bool.and_true, Bool.and_false, Bool.true_or, Bool.false_or, oSub, oNeg, oLt, oLe, oGt, oGe, oIs, oIsNot, Vs.isNon, oTru, oBl, oIx, oLen, oAbs, oIntC, oMax2, oMin2, oTupC, oLstC, oSl, keyD, decide_true, decide_false, plainE, fzE, gIx, List.filterMap_cons, List.filterMap_nil, wipeE, restE, List.all_cons, List.all_nil, List.getD_eq_getElem?_getD, Option.getD_some, oMod_ok, oFdiv_ok, oPow_lit, oMul_lit, oRepr_bl, oEq_str, oNe_str, oEq_int, oNe_int, oEq_bl, oNe_bl, oEq_nil, oNe_nil, oIsi_int, oIsi_bool, oIsi_listed, str_beq, b__law_lots_right_1, go_rng1_ok hr]
  have hlen : (rngD 0 m.toNat).length = m.toNat := by simp [rngD]
  refine go_loopC (fun i acc e => ∃ W', Wl (n + 1 + i) W' ∧ acc.length ≤ i ∧ e = [some (.ol (some 0) W'), some (.fz (.int m)), none, none, none, none, none, none]) _ 0 [] _ _ ?_ ⟨_, h1, by simp, rfl⟩ ?_
  · rintro i d acc _ hi ⟨W', hw, hacc, rfl⟩
    have hi6 : i < m.toNat := by
      have := (List.getElem?_eq_some_iff.mp hi).1
      omega
    refine ⟨_, rfl, ?_⟩
    simp only [k_ok, k_exc, kS_ok, kS_exc, kq_next, kq_ret, kq_brk, kq_cont, kq_exc, kq_retF, go_ok, go_exc, go_next, go_ret, go_brk, go_cont, go_excS, go_retF, go_some, go_v, getV_fz, go_c, go_bin, go_bin1, go_bin2, go_un, go_un1, go_tru, go_tru1, go_bl, go_bl1, go_and, go_andT, go_andF, go_or, go_orT, go_orF, go_not, go_not1, go_andV, go_orV, go_andV1, go_orV1, go_andVT, go_andVF, go_orVT, go_orVF, go_notV, go_notV1, go_notV2, go_if, go_ifT, go_ifF, go_nil, go_cons, go_cons1, go_cons2, go_chk, go_lst, go_tup, go_lst1, go_tup1, go_cal, go_cal1, go_isi, go_isi1, go_seq, go_sRet, go_ret1, go_sExpr, go_ex1, go_sIf, go_sifT, go_sifF, go_optS, go_sAsg, go_asg1, go_sSet, go_set1, go_sPar, go_par1, go_sAug, go_augV, kN_eq, kNil_eq, kCons_eq, kT_eq, rdE_eq, rdO_fz, rdO_ol, ownE_eq, owO_ol, go_binL, go_binL1, go_binL2, oSw_eq, go_binR, go_binR1, go_sPut, go_put1, go_putO, go_put2, go_putP, go_putN, go_retF1, go_fLst, go_fl1, go_sOwn, go_own1, go_call, go_call1, kFR_ok, kFR_exc, go_callIo, go_io0, go_io1, go_io2, kIo_ok, kIo_exc, go_callN, go_calln1, go_calln2, go_okF, go_excF, kRun_next, kRun_ret, kRun_exc, finF_none, finF_some, finS_ol, go_finO, go_finX, go_items, go_items_lst, go_items_tup, go_rng1, go_rng1_ok, go_rng2, go_rng2_ok, go_zip, go_zip_l, go_zip_t, go_enum, go_enum_l, go_sFor, go_for1, kLoop_next, kLoop_cont, kLoop_brk, kLoop_ret, kLoop_exc, turn_next, turn_cont, go_lc, go_lc1, kLc_ok, elem_ok, go_yes, go_sl, go_sl1, go_sl2, go_sl3, go_noP, go_p, go_p1, go_rev, go_rev1, go_chain, go_ch1, go_ch2, go_ch3T, go_ch3F, go_ch4, go_dic, go_dic1, go_prs_nil, go_prs, go_prs1, go_prs2, go_prs3, go_prs4, kW_ok, go_fcall, go_fcall1, kRunW_ok, go_okW, go_cf, go_cf1, oAdd_int, oAdd_bl, atI_0, atI_1, atI_2, atI_3, ixN_0, ixN_1, ixN_2, sz_lit, List.getElem?_cons_zero, List.getElem?_cons_succ, List.set_cons_zero, List.set_cons_succ, List.nil_append, List.cons_append, List.append_nil, List.length_cons, List.length_nil, Nat.reduceSub, Nat.reduceLeDiff, Nat.zero_add, Option.bind_some, Option.map_some, reduceCtorEq, Int.reduceLT, Int.reduceLE, Int.reduceNeg, Int.reducePow, Int.reduceToNat, and_true, true_and, and_self, ite_true, ite_false, if_true, if_false, Bool.not_true, Bool.not_false, Bool.true_and, Bool.false_and, Bool.and_true, Bool.and_false, Bool.true_or, Bool.false_or, oSub, oNeg, oLt, oLe, oGt, oGe, oIs, oIsNot, Vs.isNon, oTru, oBl, oIx, oLen, oAbs, oIntC, oMax2, oMin2, oTupC, oLstC, oSl, keyD, decide_true, decide_false, plainE, fzE, gIx, List.filterMap_cons, List.filterMap_nil, wipeE, restE, List.all_cons, List.all_nil, List.getD_eq_getElem?_getD, Option.getD_some, oMod_ok, oFdiv_ok, oPow_lit, oMul_lit, oRepr_bl, oEq_str, oNe_str, oEq_int, oNe_int, oEq_bl, oNe_bl, oEq_nil, oNe_nil, oIsi_int, oIsi_bool, oIsi_listed, str_beq]
    refine draws _ _ W' _ hw (by omega) (by omega) (by omega) fun W1 x h1 _ _ => ?_
    simp only [k_ok, k_exc, kS_ok, kS_exc, kq_next, kq_ret, kq_brk, kq_cont, kq_exc, kq_retF, go_ok, go_exc, go_next, go_ret, go_brk, go_cont, go_excS, go_retF, go_some, go_v, getV_fz, go_c, go_bin, go_bin1, go_bin2, go_un, go_un1, go_tru, go_tru1, go_bl, go_bl1, go_and, go_andT, go_andF, go_or, go_orT, go_orF, go_not, go_not1, go_andV, go_orV, go_andV1, go_orV1, go_andVT, go_andVF, go_orVT, go_orVF, go_notV, go_notV1, go_notV2, go_if, go_ifT, go_ifF, go_nil, go_cons, go_cons1, go_cons2, go_chk, go_lst, go_tup, go_lst1, go_tup1, go_cal, go_cal1, go_isi, go_isi1, go_seq, go_sRet, go_ret1, go_sExpr, go_ex1, go_sIf, go_sifT, go_sifF, go_optS, go_sAsg, go_asg1, go_sSet, go_set1, go_sPar, go_par1, go_sAug, go_augV, kN_eq, kNil_eq, kCons_eq, kT_eq, rdE_eq, rdO_fz, rdO_ol, ownE_eq, owO_ol, go_binL, go_binL1, go_binL2, oSw_eq, go_binR, go_binR1, go_sPut, go_put1, go_putO, go_put2, go_putP, go_putN, go_retF1, go_fLst, go_fl1, go_sOwn, go_own1, go_call, go_call1, kFR_ok, kFR_exc, go_callIo, go_io0, go_io1, go_io2, kIo_ok, kIo_exc, go_callN, go_calln1, go_calln2, go_okF, go_excF, kRun_next, kRun_ret, kRun_exc, finF_none, finF_some, finS_ol, go_finO, go_finX, go_items, go_items_lst, go_items_tup, go_rng1, go_rng1_ok, go_rng2, go_rng2_ok, go_zip, go_zip_l, go_zip_t, go_enum, go_enum_l, go_sFor, go_for1, kLoop_next, kLoop_cont, kLoop_brk, kLoop_ret, kLoop_exc, turn_next, turn_cont, go_lc, go_lc1, kLc_ok, elem_ok, go_yes, go_sl, go_sl1, go_sl2, go_sl3, go_noP, go_p, go_p1, go_rev, go_rev1, go_chain, go_ch1, go_ch2, go_ch3T, go_ch3F, go_ch4, go_dic, go_dic1, go_prs_nil, go_prs, go_prs1, go_prs2, go_prs3, go_prs4, kW_ok, go_fcall, go_fcall1, kRunW_ok, go_okW, go_cf, go_cf1, oAdd_int, oAdd_bl, atI_0, atI_1, atI_2, atI_3, ixN_0, ixN_1, ixN_2, sz_lit, List.getElem?_cons_zero, List.getElem?_cons_succ, List.set_cons_zero, List.set_cons_succ, List.nil_append, List.cons_append, List.append_nil, List.length_cons, List.length_nil, Nat.reduceSub, Nat.reduceLeDiff, Nat.zero_add, Option.bind_some, Option.map_some, reduceCtorEq, Int.reduceLT, Int.reduceLE, Int.reduceNeg, Int.reducePow, Int.reduceToNat, and_true, true_and, and_self, ite_true, ite_false, if_true, if_false, Bool.not_true, Bool.not_false, Bool.true_and, Bool.false_and, Bool.and_true, Bool.and_false, Bool.true_or, Bool.false_or, oSub, oNeg, oLt, oLe, oGt, oGe, oIs, oIsNot, Vs.isNon, oTru, oBl, oIx, oLen, oAbs, oIntC, oMax2, oMin2, oTupC, oLstC, oSl, keyD, decide_true, decide_false, plainE, fzE, gIx, List.filterMap_cons, List.filterMap_nil, wipeE, restE, List.all_cons, List.all_nil, List.getD_eq_getElem?_getD, Option.getD_some, oMod_ok, oFdiv_ok, oPow_lit, oMul_lit, oRepr_bl, oEq_str, oNe_str, oEq_int, oNe_int, oEq_bl, oNe_bl, oEq_nil, oNe_nil, oIsi_int, oIsi_bool, oIsi_listed, str_beq]
    rw [test_ok]
    refine ⟨fun _ => ?_, fun _ => ?_⟩
    · simp only [k_ok, k_exc, kS_ok, kS_exc, kq_next, kq_ret, kq_brk, kq_cont, kq_exc, kq_retF, go_ok, go_exc, go_next, go_ret, go_brk, go_cont, go_excS, go_retF, go_some, go_v, getV_fz, go_c, go_bin, go_bin1, go_bin2, go_un, go_un1, go_tru, go_tru1, go_bl, go_bl1, go_and, go_andT, go_andF, go_or, go_orT, go_orF, go_not, go_not1, go_andV, go_orV, go_andV1, go_orV1, go_andVT, go_andVF, go_orVT, go_orVF, go_notV, go_notV1, go_notV2, go_if, go_ifT, go_ifF, go_nil, go_cons, go_cons1, go_cons2, go_chk, go_lst, go_tup, go_lst1, go_tup1, go_cal, go_cal1, go_isi, go_isi1, go_seq, go_sRet, go_ret1, go_sExpr, go_ex1, go_sIf, go_sifT, go_sifF, go_optS, go_sAsg, go_asg1, go_sSet, go_set1, go_sPar, go_par1, go_sAug, go_augV, kN_eq, kNil_eq, kCons_eq, kT_eq, rdE_eq, rdO_fz, rdO_ol, ownE_eq, owO_ol, go_binL, go_binL1, go_binL2, oSw_eq, go_binR, go_binR1, go_sPut, go_put1, go_putO, go_put2, go_putP, go_putN, go_retF1, go_fLst, go_fl1, go_sOwn, go_own1, go_call, go_call1, kFR_ok, kFR_exc, go_callIo, go_io0, go_io1, go_io2, kIo_ok, kIo_exc, go_callN, go_calln1, go_calln2, go_okF, go_excF, kRun_next, kRun_ret, kRun_exc, finF_none, finF_some, finS_ol, go_finO, go_finX, go_items, go_items_lst, go_items_tup, go_rng1, go_rng1_ok, go_rng2, go_rng2_ok, go_zip, go_zip_l, go_zip_t, go_enum, go_enum_l, go_sFor, go_for1, kLoop_next, kLoop_cont, kLoop_brk, kLoop_ret, kLoop_exc, turn_next, turn_cont, go_lc, go_lc1, kLc_ok, elem_ok, go_yes, go_sl, go_sl1, go_sl2, go_sl3, go_noP, go_p, go_p1, go_rev, go_rev1, go_chain, go_ch1, go_ch2, go_ch3T, go_ch3F, go_ch4, go_dic, go_dic1, go_prs_nil, go_prs, go_prs1, go_prs2, go_prs3, go_prs4, kW_ok, go_fcall, go_fcall1, kRunW_ok, go_okW, go_cf, go_cf1, oAdd_int, oAdd_bl, atI_0, atI_1, atI_2, atI_3, ixN_0, ixN_1, ixN_2, sz_lit, List.getElem?_cons_zero, List.getElem?_cons_succ, List.set_cons_zero, List.set_cons_succ, List.nil_append, List.cons_append, List.append_nil, List.length_cons, List.length_nil, Nat.reduceSub, Nat.reduceLeDiff, Nat.zero_add, Option.bind_some, Option.map_some, reduceCtorEq, Int.reduceLT, Int.reduceLE, Int.reduceNeg, Int.reducePow, Int.reduceToNat, and_true, true_and, and_self, ite_true, ite_false, if_true, if_false, Bool.not_true, Bool.not_false, Bool.true_and, Bool.false_and, Bool.and_true, Bool.and_false, Bool.true_or, Bool.false_or, oSub, oNeg, oLt, oLe, oGt, oGe, oIs, oIsNot, Vs.isNon, oTru, oBl, oIx, oLen, oAbs, oIntC, oMax2, oMin2, oTupC, oLstC, oSl, keyD, decide_true, decide_false, plainE, fzE, gIx, List.filterMap_cons, List.filterMap_nil, wipeE, restE, List.all_cons, List.all_nil, List.getD_eq_getElem?_getD, Option.getD_some, oMod_ok, oFdiv_ok, oPow_lit, oMul_lit, oRepr_bl, oEq_str, oNe_str, oEq_int, oNe_int, oEq_bl, oNe_bl, oEq_nil, oNe_nil, oIsi_int, oIsi_bool, oIsi_listed, str_beq, elem_ok]
      exact ⟨_, by rw [Nat.zero_add] at *; exact h1, by simp; omega, rfl⟩
    · simp only [k_ok, k_exc, kS_ok, kS_exc, kq_next, kq_ret, kq_brk, kq_cont, kq_exc, kq_retF, go_ok, go_exc, go_next, go_ret, go_brk, go_cont, go_excS, go_retF, go_some, go_v, getV_fz, go_c, go_bin, go_bin1, go_bin2, go_un, go_un1, go_tru, go_tru1, go_bl, go_bl1, go_and, go_andT, go_andF, go_or, go_orT, go_orF, go_not, go_not1, go_andV, go_orV, go_andV1, go_orV1, go_andVT, go_andVF, go_orVT, go_orVF, go_notV, go_notV1, go_notV2, go_if, go_ifT, go_ifF, go_nil, go_cons, go_cons1, go_cons2, go_chk, go_lst, go_tup, go_lst1, go_tup1, go_cal, go_cal1, go_isi, go_isi1, go_seq, go_sRet, go_ret1, go_sExpr, go_ex1, go_sIf, go_sifT, go_sifF, go_optS, go_sAsg, go_asg1, go_sSet, go_set1, go_sPar, go_par1, go_sAug, go_augV, kN_eq, kNil_eq, kCons_eq, kT_eq, rdE_eq, rdO_fz, rdO_ol, ownE_eq, owO_ol, go_binL, go_binL1, go_binL2, oSw_eq, go_binR, go_binR1, go_sPut, go_put1, go_putO, go_put2, go_putP, go_putN, go_retF1, go_fLst, go_fl1, go_sOwn, go_own1, go_call, go_call1, kFR_ok, kFR_exc, go_callIo, go_io0, go_io1, go_io2, kIo_ok, kIo_exc, go_callN, go_calln1, go_calln2, go_okF, go_excF, kRun_next, kRun_ret, kRun_exc, finF_none, finF_some, finS_ol, go_finO, go_finX, go_items, go_items_lst, go_items_tup, go_rng1, go_rng1_ok, go_rng2, go_rng2_ok, go_zip, go_zip_l, go_zip_t, go_enum, go_enum_l, go_sFor, go_for1, kLoop_next, kLoop_cont, kLoop_brk, kLoop_ret, kLoop_exc, turn_next, turn_cont, go_lc, go_lc1, kLc_ok, elem_ok, go_yes, go_sl, go_sl1, go_sl2, go_sl3, go_noP, go_p, go_p1, go_rev, go_rev1, go_chain, go_ch1, go_ch2, go_ch3T, go_ch3F, go_ch4, go_dic, go_dic1, go_prs_nil, go_prs, go_prs1, go_prs2, go_prs3, go_prs4, kW_ok, go_fcall, go_fcall1, kRunW_ok, go_okW, go_cf, go_cf1, oAdd_int, oAdd_bl, atI_0, atI_1, atI_2, atI_3, ixN_0, ixN_1, ixN_2, sz_lit, List.getElem?_cons_zero, List.getElem?_cons_succ, List.set_cons_zero, List.set_cons_succ, List.nil_append, List.cons_append, List.append_nil, List.length_cons, List.length_nil, Nat.reduceSub, Nat.reduceLeDiff, Nat.zero_add, Option.bind_some, Option.map_some, reduceCtorEq, Int.reduceLT, Int.reduceLE, Int.reduceNeg, Int.reducePow, Int.reduceToNat, and_true, true_and, and_self, ite_true, ite_false, if_true, if_false, Bool.not_true, Bool.not_false, Bool.true_and, Bool.false_and, Bool.and_true, Bool.and_false, Bool.true_or, Bool.false_or, oSub, oNeg, oLt, oLe, oGt, oGe, oIs, oIsNot, Vs.isNon, oTru, oBl, oIx, oLen, oAbs, oIntC, oMax2, oMin2, oTupC, oLstC, oSl, keyD, decide_true, decide_false, plainE, fzE, gIx, List.filterMap_cons, List.filterMap_nil, wipeE, restE, List.all_cons, List.all_nil, List.getD_eq_getElem?_getD, Option.getD_some, oMod_ok, oFdiv_ok, oPow_lit, oMul_lit, oRepr_bl, oEq_str, oNe_str, oEq_int, oNe_int, oEq_bl, oNe_bl, oEq_nil, oNe_nil, oIsi_int, oIsi_bool, oIsi_listed, str_beq]
      exact ⟨_, by rw [Nat.zero_add] at *; exact h1, by omega, rfl⟩
  · rintro ys _ ⟨W2, h2, hys, rfl⟩
    rw [hlen] at h2 hys
    simp only [List.nil_append, Nat.zero_add] at h2 hys
    rw [kLc_ok (small_sz (by omega))]
    simp only [k_ok, k_exc, kS_ok, kS_exc, kq_next, kq_ret, kq_brk, kq_cont, kq_exc, kq_retF, go_ok, go_exc, go_next, go_ret, go_brk, go_cont, go_excS, go_retF, go_some, go_v, getV_fz, go_c, go_bin, go_bin1, go_bin2, go_un, go_un1, go_tru, go_tru1, go_bl, go_bl1, go_and, go_andT, go_andF, go_or, go_orT, go_orF, go_not, go_not1, go_andV, go_orV, go_andV1, go_orV1, go_andVT, go_andVF, go_orVT, go_orVF, go_notV, go_notV1, go_notV2, go_if, go_ifT, go_ifF, go_nil, go_cons, go_cons1, go_cons2, go_chk, go_lst, go_tup, go_lst1, go_tup1, go_cal, go_cal1, go_isi, go_isi1, go_seq, go_sRet, go_ret1, go_sExpr, go_ex1, go_sIf, go_sifT, go_sifF, go_optS, go_sAsg, go_asg1, go_sSet, go_set1, go_sPar, go_par1, go_sAug, go_augV, kN_eq, kNil_eq, kCons_eq, kT_eq, rdE_eq, rdO_fz, rdO_ol, ownE_eq, owO_ol, go_binL, go_binL1, go_binL2, oSw_eq, go_binR, go_binR1, go_sPut, go_put1, go_putO, go_put2, go_putP, go_putN, go_retF1, go_fLst, go_fl1, go_sOwn, go_own1, go_call, go_call1, kFR_ok, kFR_exc, go_callIo, go_io0, go_io1, go_io2, kIo_ok, kIo_exc, go_callN, go_calln1, go_calln2, go_okF, go_excF, kRun_next, kRun_ret, kRun_exc, finF_none, finF_some, finS_ol, go_finO, go_finX, go_items, go_items_lst, go_items_tup, go_rng1, go_rng1_ok, go_rng2, go_rng2_ok, go_zip, go_zip_l, go_zip_t, go_enum, go_enum_l, go_sFor, go_for1, kLoop_next, kLoop_cont, kLoop_brk, kLoop_ret, kLoop_exc, turn_next, turn_cont, go_lc, go_lc1, kLc_ok, elem_ok, go_yes, go_sl, go_sl1, go_sl2, go_sl3, go_noP, go_p, go_p1, go_rev, go_rev1, go_chain, go_ch1, go_ch2, go_ch3T, go_ch3F, go_ch4, go_dic, go_dic1, go_prs_nil, go_prs, go_prs1, go_prs2, go_prs3, go_prs4, kW_ok, go_fcall, go_fcall1, kRunW_ok, go_okW, go_cf, go_cf1, oAdd_int, oAdd_bl, atI_0, atI_1, atI_2, atI_3, ixN_0, ixN_1, ixN_2, sz_lit, List.getElem?_cons_zero, List.getElem?_cons_succ, List.set_cons_zero, List.set_cons_succ, List.nil_append, List.cons_append, List.append_nil, List.length_cons, List.length_nil, Nat.reduceSub, Nat.reduceLeDiff, Nat.zero_add, Option.bind_some, Option.map_some, reduceCtorEq, Int.reduceLT, Int.reduceLE, Int.reduceNeg, Int.reducePow, Int.reduceToNat, and_true, true_and, and_self, ite_true, ite_false, if_true, if_false, Bool.not_true, Bool.not_false, Bool.true_and, Bool.false_and, Bool.and_true, Bool.and_false, Bool.true_or, Bool.false_or, oSub, oNeg, oLt, oLe, oGt, oGe, oIs, oIsNot, Vs.isNon, oTru, oBl, oIx, oLen, oAbs, oIntC, oMax2, oMin2, oTupC, oLstC, oSl, keyD, decide_true, decide_false, plainE, fzE, gIx, List.filterMap_cons, List.filterMap_nil, wipeE, restE, List.all_cons, List.all_nil, List.getD_eq_getElem?_getD, Option.getD_some, oMod_ok, oFdiv_ok, oPow_lit, oMul_lit, oRepr_bl, oEq_str, oNe_str, oEq_int, oNe_int, oEq_bl, oNe_bl, oEq_nil, oNe_nil, oIsi_int, oIsi_bool, oIsi_listed, str_beq, b__law_lots_right_2]
    refine draws _ _ W2 _ h2 (by omega) (by omega) (by omega) fun W3 w h3 _ _ => ?_
    simp only [k_ok, k_exc, kS_ok, kS_exc, kq_next, kq_ret, kq_brk, kq_cont, kq_exc, kq_retF, go_ok, go_exc, go_next, go_ret, go_brk, go_cont, go_excS, go_retF, go_some, go_v, getV_fz, go_c, go_bin, go_bin1, go_bin2, go_un, go_un1, go_tru, go_tru1, go_bl, go_bl1, go_and, go_andT, go_andF, go_or, go_orT, go_orF, go_not, go_not1, go_andV, go_orV, go_andV1, go_orV1, go_andVT, go_andVF, go_orVT, go_orVF, go_notV, go_notV1, go_notV2, go_if, go_ifT, go_ifF, go_nil, go_cons, go_cons1, go_cons2, go_chk, go_lst, go_tup, go_lst1, go_tup1, go_cal, go_cal1, go_isi, go_isi1, go_seq, go_sRet, go_ret1, go_sExpr, go_ex1, go_sIf, go_sifT, go_sifF, go_optS, go_sAsg, go_asg1, go_sSet, go_set1, go_sPar, go_par1, go_sAug, go_augV, kN_eq, kNil_eq, kCons_eq, kT_eq, rdE_eq, rdO_fz, rdO_ol, ownE_eq, owO_ol, go_binL, go_binL1, go_binL2, oSw_eq, go_binR, go_binR1, go_sPut, go_put1, go_putO, go_put2, go_putP, go_putN, go_retF1, go_fLst, go_fl1, go_sOwn, go_own1, go_call, go_call1, kFR_ok, kFR_exc, go_callIo, go_io0, go_io1, go_io2, kIo_ok, kIo_exc, go_callN, go_calln1, go_calln2, go_okF, go_excF, kRun_next, kRun_ret, kRun_exc, finF_none, finF_some, finS_ol, go_finO, go_finX, go_items, go_items_lst, go_items_tup, go_rng1, go_rng1_ok, go_rng2, go_rng2_ok, go_zip, go_zip_l, go_zip_t, go_enum, go_enum_l, go_sFor, go_for1, kLoop_next, kLoop_cont, kLoop_brk, kLoop_ret, kLoop_exc, turn_next, turn_cont, go_lc, go_lc1, kLc_ok, elem_ok, go_yes, go_sl, go_sl1, go_sl2, go_sl3, go_noP, go_p, go_p1, go_rev, go_rev1, go_chain, go_ch1, go_ch2, go_ch3T, go_ch3F, go_ch4, go_dic, go_dic1, go_prs_nil, go_prs, go_prs1, go_prs2, go_prs3, go_prs4, kW_ok, go_fcall, go_fcall1, kRunW_ok, go_okW, go_cf, go_cf1, oAdd_int, oAdd_bl, atI_0, atI_1, atI_2, atI_3, ixN_0, ixN_1, ixN_2, sz_lit, List.getElem?_cons_zero, List.getElem?_cons_succ, List.set_cons_zero, List.set_cons_succ, List.nil_append, List.cons_append, List.append_nil, List.length_cons, List.length_nil, Nat.reduceSub, Nat.reduceLeDiff, Nat.zero_add, Option.bind_some, Option.map_some, reduceCtorEq, Int.reduceLT, Int.reduceLE, Int.reduceNeg, Int.reducePow, Int.reduceToNat, and_true, true_and, and_self, ite_true, ite_false, if_true, if_false, Bool.not_true, Bool.not_false, Bool.true_and, Bool.false_and, Bool.and_true, Bool.and_false, Bool.true_or, Bool.false_or, oSub, oNeg, oLt, oLe, oGt, oGe, oIs, oIsNot, Vs.isNon, oTru, oBl, oIx, oLen, oAbs, oIntC, oMax2, oMin2, oTupC, oLstC, oSl, keyD, decide_true, decide_false, plainE, fzE, gIx, List.filterMap_cons, List.filterMap_nil, wipeE, restE, List.all_cons, List.all_nil, List.getD_eq_getElem?_getD, Option.getD_some, oMod_ok, oFdiv_ok, oPow_lit, oMul_lit, oRepr_bl, oEq_str, oNe_str, oEq_int, oNe_int, oEq_bl, oNe_bl, oEq_nil, oNe_nil, oIsi_int, oIsi_bool, oIsi_listed, str_beq]
    exact lots_3 h3 (by omega) (by omega) fun W' h' => hK W' (h'.mono (by omega))
theorem law_true (ns : List Int) (hl : ns.length ≤ 63) : F_law none [.scr ns] = .ok (.bl true) none := of_go (by
  rw [run_law]; unfold b_law
  simp only [k_ok, k_exc, kS_ok, kS_exc, kq_next, kq_ret, kq_brk, kq_cont, kq_exc, kq_retF, go_ok, go_exc, go_next, go_ret, go_brk, go_cont, go_excS, go_retF, go_some, go_v, getV_fz, go_c, go_bin, go_bin1, go_bin2, go_un, go_un1, go_tru, go_tru1, go_bl, go_bl1, go_and, go_andT, go_andF, go_or, go_orT, go_orF, go_not, go_not1, go_andV, go_orV, go_andV1, go_orV1, go_andVT, go_andVF, go_orVT, go_orVF, go_notV, go_notV1, go_notV2, go_if, go_ifT, go_ifF, go_nil, go_cons, go_cons1, go_cons2, go_chk, go_lst, go_tup, go_lst1, go_tup1, go_cal, go_cal1, go_isi, go_isi1, go_seq, go_sRet, go_ret1, go_sExpr, go_ex1, go_sIf, go_sifT, go_sifF, go_optS, go_sAsg, go_asg1, go_sSet, go_set1, go_sPar, go_par1, go_sAug, go_augV, kN_eq, kNil_eq, kCons_eq, kT_eq, rdE_eq, rdO_fz, rdO_ol, ownE_eq, owO_ol, go_binL, go_binL1, go_binL2, oSw_eq, go_binR, go_binR1, go_sPut, go_put1, go_putO, go_put2, go_putP, go_putN, go_retF1, go_fLst, go_fl1, go_sOwn, go_own1, go_call, go_call1, kFR_ok, kFR_exc, go_callIo, go_io0, go_io1, go_io2, kIo_ok, kIo_exc, go_callN, go_calln1, go_calln2, go_okF, go_excF, kRun_next, kRun_ret, kRun_exc, finF_none, finF_some, finS_ol, go_finO, go_finX, go_items, go_items_lst, go_items_tup, go_rng1, go_rng1_ok, go_rng2, go_rng2_ok, go_zip, go_zip_l, go_zip_t, go_enum, go_enum_l, go_sFor, go_for1, kLoop_next, kLoop_cont, kLoop_brk, kLoop_ret, kLoop_exc, turn_next, turn_cont, go_lc, go_lc1, kLc_ok, elem_ok, go_yes, go_sl, go_sl1, go_sl2, go_sl3, go_noP, go_p, go_p1, go_rev, go_rev1, go_chain, go_ch1, go_ch2, go_ch3T, go_ch3F, go_ch4, go_dic, go_dic1, go_prs_nil, go_prs, go_prs1, go_prs2, go_prs3, go_prs4, kW_ok, go_fcall, go_fcall1, kRunW_ok, go_okW, go_cf, go_cf1, oAdd_int, oAdd_bl, atI_0, atI_1, atI_2, atI_3, ixN_0, ixN_1, ixN_2, sz_lit, List.getElem?_cons_zero, List.getElem?_cons_succ, List.set_cons_zero, List.set_cons_succ, List.nil_append, List.cons_append, List.append_nil, List.length_cons, List.length_nil, Nat.reduceSub, Nat.reduceLeDiff, Nat.zero_add, Option.bind_some, Option.map_some, reduceCtorEq, Int.reduceLT, Int.reduceLE, Int.reduceNeg, Int.reducePow, Int.reduceToNat, and_true, true_and, and_self, ite_true, ite_false, if_true, if_false, Bool.not_true, Bool.not_false, Bool.true_and, Bool.false_and, Bool.and_true, Bool.and_false, Bool.true_or, Bool.false_or, oSub, oNeg, oLt, oLe, oGt, oGe, oIs, oIsNot, Vs.isNon, oTru, oBl, oIx, oLen, oAbs, oIntC, oMax2, oMin2, oTupC, oLstC, oSl, keyD, decide_true, decide_false, plainE, fzE, gIx, List.filterMap_cons, List.filterMap_nil, wipeE, restE, List.all_cons, List.all_nil, List.getD_eq_getElem?_getD, Option.getD_some, oMod_ok, oFdiv_ok, oPow_lit, oMul_lit, oRepr_bl, oEq_str, oNe_str, oEq_int, oNe_int, oEq_bl, oNe_bl, oEq_nil, oNe_nil, oIsi_int, oIsi_bool, oIsi_listed, str_beq]
  refine well_go (small_sz (by omega)) fun W h => ?_
  simp only [k_ok, k_exc, kS_ok, kS_exc, kq_next, kq_ret, kq_brk, kq_cont, kq_exc, kq_retF, go_ok, go_exc, go_next, go_ret, go_brk, go_cont, go_excS, go_retF, go_some, go_v, getV_fz, go_c, go_bin, go_bin1, go_bin2, go_un, go_un1, go_tru, go_tru1, go_bl, go_bl1, go_and, go_andT, go_andF, go_or, go_orT, go_orF, go_not, go_not1, go_andV, go_orV, go_andV1, go_orV1, go_andVT, go_andVF, go_orVT, go_orVF, go_notV, go_notV1, go_notV2, go_if, go_ifT, go_ifF, go_nil, go_cons, go_cons1, go_cons2, go_chk, go_lst, go_tup, go_lst1, go_tup1, go_cal, go_cal1, go_isi, go_isi1, go_seq, go_sRet, go_ret1, go_sExpr, go_ex1, go_sIf, go_sifT, go_sifF, go_optS, go_sAsg, go_asg1, go_sSet, go_set1, go_sPar, go_par1, go_sAug, go_augV, kN_eq, kNil_eq, kCons_eq, kT_eq, rdE_eq, rdO_fz, rdO_ol, ownE_eq, owO_ol, go_binL, go_binL1, go_binL2, oSw_eq, go_binR, go_binR1, go_sPut, go_put1, go_putO, go_put2, go_putP, go_putN, go_retF1, go_fLst, go_fl1, go_sOwn, go_own1, go_call, go_call1, kFR_ok, kFR_exc, go_callIo, go_io0, go_io1, go_io2, kIo_ok, kIo_exc, go_callN, go_calln1, go_calln2, go_okF, go_excF, kRun_next, kRun_ret, kRun_exc, finF_none, finF_some, finS_ol, go_finO, go_finX, go_items, go_items_lst, go_items_tup, go_rng1, go_rng1_ok, go_rng2, go_rng2_ok, go_zip, go_zip_l, go_zip_t, go_enum, go_enum_l, go_sFor, go_for1, kLoop_next, kLoop_cont, kLoop_brk, kLoop_ret, kLoop_exc, turn_next, turn_cont, go_lc, go_lc1, kLc_ok, elem_ok, go_yes, go_sl, go_sl1, go_sl2, go_sl3, go_noP, go_p, go_p1, go_rev, go_rev1, go_chain, go_ch1, go_ch2, go_ch3T, go_ch3F, go_ch4, go_dic, go_dic1, go_prs_nil, go_prs, go_prs1, go_prs2, go_prs3, go_prs4, kW_ok, go_fcall, go_fcall1, kRunW_ok, go_okW, go_cf, go_cf1, oAdd_int, oAdd_bl, atI_0, atI_1, atI_2, atI_3, ixN_0, ixN_1, ixN_2, sz_lit, List.getElem?_cons_zero, List.getElem?_cons_succ, List.set_cons_zero, List.set_cons_succ, List.nil_append, List.cons_append, List.append_nil, List.length_cons, List.length_nil, Nat.reduceSub, Nat.reduceLeDiff, Nat.zero_add, Option.bind_some, Option.map_some, reduceCtorEq, Int.reduceLT, Int.reduceLE, Int.reduceNeg, Int.reducePow, Int.reduceToNat, and_true, true_and, and_self, ite_true, ite_false, if_true, if_false, Bool.not_true, Bool.not_false, Bool.true_and, Bool.false_and, Bool.and_true, Bool.and_false, Bool.true_or, Bool.false_or, oSub, oNeg, oLt, oLe, oGt, oGe, oIs, oIsNot, Vs.isNon, oTru, oBl, oIx, oLen, oAbs, oIntC, oMax2, oMin2, oTupC, oLstC, oSl, keyD, decide_true, decide_false, plainE, fzE, gIx, List.filterMap_cons, List.filterMap_nil, wipeE, restE, List.all_cons, List.all_nil, List.getD_eq_getElem?_getD, Option.getD_some, oMod_ok, oFdiv_ok, oPow_lit, oMul_lit, oRepr_bl, oEq_str, oNe_str, oEq_int, oNe_int, oEq_bl, oNe_bl, oEq_nil, oNe_nil, oIsi_int, oIsi_bool, oIsi_listed, str_beq, b_law_1]
  refine go_loop (fun i e => ∃ W' a, Wl (50 * i) W' ∧ e = [some (.fz (.scr ns)), some (.ol none W'), a]) _ 0 _ ?_ ⟨_, _, h, rfl⟩ ?_
  · rintro i y _ hi ⟨W', a, hw, rfl⟩
    have hi6 : i < 6 := by
      have := (List.getElem?_eq_some_iff.mp hi).1
      simpa [rngD] using this
    refine ⟨_, rfl, ?_⟩
    unfold l1_law
    simp only [k_ok, k_exc, kS_ok, kS_exc, kq_next, kq_ret, kq_brk, kq_cont, kq_exc, kq_retF, go_ok, go_exc, go_next, go_ret, go_brk, go_cont, go_excS, go_retF, go_some, go_v, getV_fz, go_c, go_bin, go_bin1, go_bin2, go_un, go_un1, go_tru, go_tru1, go_bl, go_bl1, go_and, go_andT, go_andF, go_or, go_orT, go_orF, go_not, go_not1, go_andV, go_orV, go_andV1, go_orV1, go_andVT, go_andVF, go_orVT, go_orVF, go_notV, go_notV1, go_notV2, go_if, go_ifT, go_ifF, go_nil, go_cons, go_cons1, go_cons2, go_chk, go_lst, go_tup, go_lst1, go_tup1, go_cal, go_cal1, go_isi, go_isi1, go_seq, go_sRet, go_ret1, go_sExpr, go_ex1, go_sIf, go_sifT, go_sifF, go_optS, go_sAsg, go_asg1, go_sSet, go_set1, go_sPar, go_par1, go_sAug, go_augV, kN_eq, kNil_eq, kCons_eq, kT_eq, rdE_eq, rdO_fz, rdO_ol, ownE_eq, owO_ol, go_binL, go_binL1, go_binL2, oSw_eq, go_binR, go_binR1, go_sPut, go_put1, go_putO, go_put2, go_putP, go_putN, go_retF1, go_fLst, go_fl1, go_sOwn, go_own1, go_call, go_call1, kFR_ok, kFR_exc, go_callIo, go_io0, go_io1, go_io2, kIo_ok, kIo_exc, go_callN, go_calln1, go_calln2, go_okF, go_excF, kRun_next, kRun_ret, kRun_exc, finF_none, finF_some, finS_ol, go_finO, go_finX, go_items, go_items_lst, go_items_tup, go_rng1, go_rng1_ok, go_rng2, go_rng2_ok, go_zip, go_zip_l, go_zip_t, go_enum, go_enum_l, go_sFor, go_for1, kLoop_next, kLoop_cont, kLoop_brk, kLoop_ret, kLoop_exc, turn_next, turn_cont, go_lc, go_lc1, kLc_ok, elem_ok, go_yes, go_sl, go_sl1, go_sl2, go_sl3, go_noP, go_p, go_p1, go_rev, go_rev1, go_chain, go_ch1, go_ch2, go_ch3T, go_ch3F, go_ch4, go_dic, go_dic1, go_prs_nil, go_prs, go_prs1, go_prs2, go_prs3, go_prs4, kW_ok, go_fcall, go_fcall1, kRunW_ok, go_okW, go_cf, go_cf1, oAdd_int, oAdd_bl, atI_0, atI_1, atI_2, atI_3, ixN_0, ixN_1, ixN_2, sz_lit, List.getElem?_cons_zero, List.getElem?_cons_succ, List.set_cons_zero, List.set_cons_succ, List.nil_append, List.cons_append, List.append_nil, List.length_cons, List.length_nil, Nat.reduceSub, Nat.reduceLeDiff, Nat.zero_add, Option.bind_some, Option.map_some, reduceCtorEq, Int.reduceLT, Int.reduceLE, Int.reduceNeg, Int.reducePow, Int.reduceToNat, and_true, true_and, and_self, ite_true, ite_false, if_true, if_false, Bool.not_true, Bool.not_false, Bool.true_and, Bool.false_and, Bool.and_true, Bool.and_false, Bool.true_or, Bool.false_or, oSub, oNeg, oLt, oLe, oGt, oGe, oIs, oIsNot, Vs.isNon, oTru, oBl, oIx, oLen, oAbs, oIntC, oMax2, oMin2, oTupC, oLstC, oSl, keyD, decide_true, decide_false, plainE, fzE, gIx, List.filterMap_cons, List.filterMap_nil, wipeE, restE, List.all_cons, List.all_nil, List.getD_eq_getElem?_getD, Option.getD_some, oMod_ok, oFdiv_ok, oPow_lit, oMul_lit, oRepr_bl, oEq_str, oNe_str, oEq_int, oNe_int, oEq_bl, oNe_bl, oEq_nil, oNe_nil, oIsi_int, oIsi_bool, oIsi_listed, str_beq]
    refine within_go hw (by omega) fun W1 h1 => ?_
    simp only [k_ok, k_exc, kS_ok, kS_exc, kq_next, kq_ret, kq_brk, kq_cont, kq_exc, kq_retF, go_ok, go_exc, go_next, go_ret, go_brk, go_cont, go_excS, go_retF, go_some, go_v, getV_fz, go_c, go_bin, go_bin1, go_bin2, go_un, go_un1, go_tru, go_tru1, go_bl, go_bl1, go_and, go_andT, go_andF, go_or, go_orT, go_orF, go_not, go_not1, go_andV, go_orV, go_andV1, go_orV1, go_andVT, go_andVF, go_orVT, go_orVF, go_notV, go_notV1, go_notV2, go_if, go_ifT, go_ifF, go_nil, go_cons, go_cons1, go_cons2, go_chk, go_lst, go_tup, go_lst1, go_tup1, go_cal, go_cal1, go_isi, go_isi1, go_seq, go_sRet, go_ret1, go_sExpr, go_ex1, go_sIf, go_sifT, go_sifF, go_optS, go_sAsg, go_asg1, go_sSet, go_set1, go_sPar, go_par1, go_sAug, go_augV, kN_eq, kNil_eq, kCons_eq, kT_eq, rdE_eq, rdO_fz, rdO_ol, ownE_eq, owO_ol, go_binL, go_binL1, go_binL2, oSw_eq, go_binR, go_binR1, go_sPut, go_put1, go_putO, go_put2, go_putP, go_putN, go_retF1, go_fLst, go_fl1, go_sOwn, go_own1, go_call, go_call1, kFR_ok, kFR_exc, go_callIo, go_io0, go_io1, go_io2, kIo_ok, kIo_exc, go_callN, go_calln1, go_calln2, go_okF, go_excF, kRun_next, kRun_ret, kRun_exc, finF_none, finF_some, finS_ol, go_finO, go_finX, go_items, go_items_lst, go_items_tup, go_rng1, go_rng1_ok, go_rng2, go_rng2_ok, go_zip, go_zip_l, go_zip_t, go_enum, go_enum_l, go_sFor, go_for1, kLoop_next, kLoop_cont, kLoop_brk, kLoop_ret, kLoop_exc, turn_next, turn_cont, go_lc, go_lc1, kLc_ok, elem_ok, go_yes, go_sl, go_sl1, go_sl2, go_sl3, go_noP, go_p, go_p1, go_rev, go_rev1, go_chain, go_ch1, go_ch2, go_ch3T, go_ch3F, go_ch4, go_dic, go_dic1, go_prs_nil, go_prs, go_prs1, go_prs2, go_prs3, go_prs4, kW_ok, go_fcall, go_fcall1, kRunW_ok, go_okW, go_cf, go_cf1, oAdd_int, oAdd_bl, atI_0, atI_1, atI_2, atI_3, ixN_0, ixN_1, ixN_2, sz_lit, List.getElem?_cons_zero, List.getElem?_cons_succ, List.set_cons_zero, List.set_cons_succ, List.nil_append, List.cons_append, List.append_nil, List.length_cons, List.length_nil, Nat.reduceSub, Nat.reduceLeDiff, Nat.zero_add, Option.bind_some, Option.map_some, reduceCtorEq, Int.reduceLT, Int.reduceLE, Int.reduceNeg, Int.reducePow, Int.reduceToNat, and_true, true_and, and_self, ite_true, ite_false, if_true, if_false, Bool.not_true, Bool.not_false, Bool.true_and, Bool.false_and, Bool.and_true, Bool.and_false, Bool.true_or, Bool.false_or, oSub, oNeg, oLt, oLe, oGt, oGe, oIs, oIsNot, Vs.isNon, oTru, oBl, oIx, oLen, oAbs, oIntC, oMax2, oMin2, oTupC, oLstC, oSl, keyD, decide_true, decide_false, plainE, fzE, gIx, List.filterMap_cons, List.filterMap_nil, wipeE, restE, List.all_cons, List.all_nil, List.getD_eq_getElem?_getD, Option.getD_some, oMod_ok, oFdiv_ok, oPow_lit, oMul_lit, oRepr_bl, oEq_str, oNe_str, oEq_int, oNe_int, oEq_bl, oNe_bl, oEq_nil, oNe_nil, oIsi_int, oIsi_bool, oIsi_listed, str_beq]
    refine rows_go h1 (by omega) fun W2 h2 => ?_
    simp only [k_ok, k_exc, kS_ok, kS_exc, kq_next, kq_ret, kq_brk, kq_cont, kq_exc, kq_retF, go_ok, go_exc, go_next, go_ret, go_brk, go_cont, go_excS, go_retF, go_some, go_v, getV_fz, go_c, go_bin, go_bin1, go_bin2, go_un, go_un1, go_tru, go_tru1, go_bl, go_bl1, go_and, go_andT, go_andF, go_or, go_orT, go_orF, go_not, go_not1, go_andV, go_orV, go_andV1, go_orV1, go_andVT, go_andVF, go_orVT, go_orVF, go_notV, go_notV1, go_notV2, go_if, go_ifT, go_ifF, go_nil, go_cons, go_cons1, go_cons2, go_chk, go_lst, go_tup, go_lst1, go_tup1, go_cal, go_cal1, go_isi, go_isi1, go_seq, go_sRet, go_ret1, go_sExpr, go_ex1, go_sIf, go_sifT, go_sifF, go_optS, go_sAsg, go_asg1, go_sSet, go_set1, go_sPar, go_par1, go_sAug, go_augV, kN_eq, kNil_eq, kCons_eq, kT_eq, rdE_eq, rdO_fz, rdO_ol, ownE_eq, owO_ol, go_binL, go_binL1, go_binL2, oSw_eq, go_binR, go_binR1, go_sPut, go_put1, go_putO, go_put2, go_putP, go_putN, go_retF1, go_fLst, go_fl1, go_sOwn, go_own1, go_call, go_call1, kFR_ok, kFR_exc, go_callIo, go_io0, go_io1, go_io2, kIo_ok, kIo_exc, go_callN, go_calln1, go_calln2, go_okF, go_excF, kRun_next, kRun_ret, kRun_exc, finF_none, finF_some, finS_ol, go_finO, go_finX, go_items, go_items_lst, go_items_tup, go_rng1, go_rng1_ok, go_rng2, go_rng2_ok, go_zip, go_zip_l, go_zip_t, go_enum, go_enum_l, go_sFor, go_for1, kLoop_next, kLoop_cont, kLoop_brk, kLoop_ret, kLoop_exc, turn_next, turn_cont, go_lc, go_lc1, kLc_ok, elem_ok, go_yes, go_sl, go_sl1, go_sl2, go_sl3, go_noP, go_p, go_p1, go_rev, go_rev1, go_chain, go_ch1, go_ch2, go_ch3T, go_ch3F, go_ch4, go_dic, go_dic1, go_prs_nil, go_prs, go_prs1, go_prs2, go_prs3, go_prs4, kW_ok, go_fcall, go_fcall1, kRunW_ok, go_okW, go_cf, go_cf1, oAdd_int, oAdd_bl, atI_0, atI_1, atI_2, atI_3, ixN_0, ixN_1, ixN_2, sz_lit, List.getElem?_cons_zero, List.getElem?_cons_succ, List.set_cons_zero, List.set_cons_succ, List.nil_append, List.cons_append, List.append_nil, List.length_cons, List.length_nil, Nat.reduceSub, Nat.reduceLeDiff, Nat.zero_add, Option.bind_some, Option.map_some, reduceCtorEq, Int.reduceLT, Int.reduceLE, Int.reduceNeg, Int.reducePow, Int.reduceToNat, and_true, true_and, and_self, ite_true, ite_false, if_true, if_false, Bool.not_true, Bool.not_false, Bool.true_and, Bool.false_and, Bool.and_true, Bool.and_false, Bool.true_or, Bool.false_or, oSub, oNeg, oLt, oLe, oGt, oGe, oIs, oIsNot, Vs.isNon, oTru, oBl, oIx, oLen, oAbs, oIntC, oMax2, oMin2, oTupC, oLstC, oSl, keyD, decide_true, decide_false, plainE, fzE, gIx, List.filterMap_cons, List.filterMap_nil, wipeE, restE, List.all_cons, List.all_nil, List.getD_eq_getElem?_getD, Option.getD_some, oMod_ok, oFdiv_ok, oPow_lit, oMul_lit, oRepr_bl, oEq_str, oNe_str, oEq_int, oNe_int, oEq_bl, oNe_bl, oEq_nil, oNe_nil, oIsi_int, oIsi_bool, oIsi_listed, str_beq]
    refine lots_go h2 (by omega) fun W3 h3 => ?_
    simp only [k_ok, k_exc, kS_ok, kS_exc, kq_next, kq_ret, kq_brk, kq_cont, kq_exc, kq_retF, go_ok, go_exc, go_next, go_ret, go_brk, go_cont, go_excS, go_retF, go_some, go_v, getV_fz, go_c, go_bin, go_bin1, go_bin2, go_un, go_un1, go_tru, go_tru1, go_bl, go_bl1, go_and, go_andT, go_andF, go_or, go_orT, go_orF, go_not, go_not1, go_andV, go_orV, go_andV1, go_orV1, go_andVT, go_andVF, go_orVT, go_orVF, go_notV, go_notV1, go_notV2, go_if, go_ifT, go_ifF, go_nil, go_cons, go_cons1, go_cons2, go_chk, go_lst, go_tup, go_lst1, go_tup1, go_cal, go_cal1, go_isi, go_isi1, go_seq, go_sRet, go_ret1, go_sExpr, go_ex1, go_sIf, go_sifT, go_sifF, go_optS, go_sAsg, go_asg1, go_sSet, go_set1, go_sPar, go_par1, go_sAug, go_augV, kN_eq, kNil_eq, kCons_eq, kT_eq, rdE_eq, rdO_fz, rdO_ol, ownE_eq, owO_ol, go_binL, go_binL1, go_binL2, oSw_eq, go_binR, go_binR1, go_sPut, go_put1, go_putO, go_put2, go_putP, go_putN, go_retF1, go_fLst, go_fl1, go_sOwn, go_own1, go_call, go_call1, kFR_ok, kFR_exc, go_callIo, go_io0, go_io1, go_io2, kIo_ok, kIo_exc, go_callN, go_calln1, go_calln2, go_okF, go_excF, kRun_next, kRun_ret, kRun_exc, finF_none, finF_some, finS_ol, go_finO, go_finX, go_items, go_items_lst, go_items_tup, go_rng1, go_rng1_ok, go_rng2, go_rng2_ok, go_zip, go_zip_l, go_zip_t, go_enum, go_enum_l, go_sFor, go_for1, kLoop_next, kLoop_cont, kLoop_brk, kLoop_ret, kLoop_exc, turn_next, turn_cont, go_lc, go_lc1, kLc_ok, elem_ok, go_yes, go_sl, go_sl1, go_sl2, go_sl3, go_noP, go_p, go_p1, go_rev, go_rev1, go_chain, go_ch1, go_ch2, go_ch3T, go_ch3F, go_ch4, go_dic, go_dic1, go_prs_nil, go_prs, go_prs1, go_prs2, go_prs3, go_prs4, kW_ok, go_fcall, go_fcall1, kRunW_ok, go_okW, go_cf, go_cf1, oAdd_int, oAdd_bl, atI_0, atI_1, atI_2, atI_3, ixN_0, ixN_1, ixN_2, sz_lit, List.getElem?_cons_zero, List.getElem?_cons_succ, List.set_cons_zero, List.set_cons_succ, List.nil_append, List.cons_append, List.append_nil, List.length_cons, List.length_nil, Nat.reduceSub, Nat.reduceLeDiff, Nat.zero_add, Option.bind_some, Option.map_some, reduceCtorEq, Int.reduceLT, Int.reduceLE, Int.reduceNeg, Int.reducePow, Int.reduceToNat, and_true, true_and, and_self, ite_true, ite_false, if_true, if_false, Bool.not_true, Bool.not_false, Bool.true_and, Bool.false_and, Bool.and_true, Bool.and_false, Bool.true_or, Bool.false_or, oSub, oNeg, oLt, oLe, oGt, oGe, oIs, oIsNot, Vs.isNon, oTru, oBl, oIx, oLen, oAbs, oIntC, oMax2, oMin2, oTupC, oLstC, oSl, keyD, decide_true, decide_false, plainE, fzE, gIx, List.filterMap_cons, List.filterMap_nil, wipeE, restE, List.all_cons, List.all_nil, List.getD_eq_getElem?_getD, Option.getD_some, oMod_ok, oFdiv_ok, oPow_lit, oMul_lit, oRepr_bl, oEq_str, oNe_str, oEq_int, oNe_int, oEq_bl, oNe_bl, oEq_nil, oNe_nil, oIsi_int, oIsi_bool, oIsi_listed, str_beq, turn_next]
    exact ⟨_, _, h3.mono (by omega), rfl⟩
  · rintro _ ⟨W', a, hw, rfl⟩
    simp only [k_ok, k_exc, kS_ok, kS_exc, kq_next, kq_ret, kq_brk, kq_cont, kq_exc, kq_retF, go_ok, go_exc, go_next, go_ret, go_brk, go_cont, go_excS, go_retF, go_some, go_v, getV_fz, go_c, go_bin, go_bin1, go_bin2, go_un, go_un1, go_tru, go_tru1, go_bl, go_bl1, go_and, go_andT, go_andF, go_or, go_orT, go_orF, go_not, go_not1, go_andV, go_orV, go_andV1, go_orV1, go_andVT, go_andVF, go_orVT, go_orVF, go_notV, go_notV1, go_notV2, go_if, go_ifT, go_ifF, go_nil, go_cons, go_cons1, go_cons2, go_chk, go_lst, go_tup, go_lst1, go_tup1, go_cal, go_cal1, go_isi, go_isi1, go_seq, go_sRet, go_ret1, go_sExpr, go_ex1, go_sIf, go_sifT, go_sifF, go_optS, go_sAsg, go_asg1, go_sSet, go_set1, go_sPar, go_par1, go_sAug, go_augV, kN_eq, kNil_eq, kCons_eq, kT_eq, rdE_eq, rdO_fz, rdO_ol, ownE_eq, owO_ol, go_binL, go_binL1, go_binL2, oSw_eq, go_binR, go_binR1, go_sPut, go_put1, go_putO, go_put2, go_putP, go_putN, go_retF1, go_fLst, go_fl1, go_sOwn, go_own1, go_call, go_call1, kFR_ok, kFR_exc, go_callIo, go_io0, go_io1, go_io2, kIo_ok, kIo_exc, go_callN, go_calln1, go_calln2, go_okF, go_excF, kRun_next, kRun_ret, kRun_exc, finF_none, finF_some, finS_ol, go_finO, go_finX, go_items, go_items_lst, go_items_tup, go_rng1, go_rng1_ok, go_rng2, go_rng2_ok, go_zip, go_zip_l, go_zip_t, go_enum, go_enum_l, go_sFor, go_for1, kLoop_next, kLoop_cont, kLoop_brk, kLoop_ret, kLoop_exc, turn_next, turn_cont, go_lc, go_lc1, kLc_ok, elem_ok, go_yes, go_sl, go_sl1, go_sl2, go_sl3, go_noP, go_p, go_p1, go_rev, go_rev1, go_chain, go_ch1, go_ch2, go_ch3T, go_ch3F, go_ch4, go_dic, go_dic1, go_prs_nil, go_prs, go_prs1, go_prs2, go_prs3, go_prs4, kW_ok, go_fcall, go_fcall1, kRunW_ok, go_okW, go_cf, go_cf1, oAdd_int, oAdd_bl, atI_0, atI_1, atI_2, atI_3, ixN_0, ixN_1, ixN_2, sz_lit, List.getElem?_cons_zero, List.getElem?_cons_succ, List.set_cons_zero, List.set_cons_succ, List.nil_append, List.cons_append, List.append_nil, List.length_cons, List.length_nil, Nat.reduceSub, Nat.reduceLeDiff, Nat.zero_add, Option.bind_some, Option.map_some, reduceCtorEq, Int.reduceLT, Int.reduceLE, Int.reduceNeg, Int.reducePow, Int.reduceToNat, and_true, true_and, and_self, ite_true, ite_false, if_true, if_false, Bool.not_true, Bool.not_false, Bool.true_and, Bool.false_and, Bool.and_true, Bool.and_false, Bool.true_or, Bool.false_or, oSub, oNeg, oLt, oLe, oGt, oGe, oIs, oIsNot, Vs.isNon, oTru, oBl, oIx, oLen, oAbs, oIntC, oMax2, oMin2, oTupC, oLstC, oSl, keyD, decide_true, decide_false, plainE, fzE, gIx, List.filterMap_cons, List.filterMap_nil, wipeE, restE, List.all_cons, List.all_nil, List.getD_eq_getElem?_getD, Option.getD_some, oMod_ok, oFdiv_ok, oPow_lit, oMul_lit, oRepr_bl, oEq_str, oNe_str, oEq_int, oNe_int, oEq_bl, oNe_bl, oEq_nil, oNe_nil, oIsi_int, oIsi_bool, oIsi_listed, str_beq, b_law_2])
end Lk01

open PySem PySem.W PyProof.Rows in
set_option maxRecDepth 100000 in
set_option maxHeartbeats 0 in
theorem PySem.Challenge.cw_roundsheld_k01_integers_rows_and_lots_holds : PySem.Challenge.rw_roundsheld_k01_integers_rows_and_lots.Holds := by
  w_on; o_law; k_head; (case hw => w_witness2)
  k_fill
  refine Vs.walkG (l := PySem.Challenge.rw_roundsheld_k01_integers_rows_and_lots) (n := 63) (k := 7) (x := "script") (sp := fun K => Vs.spF K Lk01.cm0 1 Lk01.F_law) rfl (by decide) rfl ⟨rfl, by decide, by decide⟩ (fun w h Y => PySem.W.kIn_of Y) ?F (fun K H a ns hl hS => Vs.law_sp hS (Lk01.law_true ns hl))
  case F =>
    intro w mg fa h KX G hmg
    refine' Lk01.all_mk KX G hmg ?a0 ?l0 ?c0 ?k0 ?a1 ?l1 ?c1 ?k1 ?a2 ?l2 ?c2 ?k2 ?a3 ?l3 ?c3 ?k3 ?t3 ?a4 ?l4 ?c4 ?k4 ?a5 ?l5 ?c5 ?k5 ?a6 ?l6 ?c6 ?k6 ?a7 ?l7 ?c7 ?k7 ?a8 ?l8 ?c8 ?k8 ?a9 ?l9 ?c9 ?k9 ?a10 ?l10 ?c10 ?k10 ?a11 ?l11 ?c11 ?k11 ?a12 ?l12 ?c12 ?k12 ?a13 ?l13 ?c13 ?k13 ?a14 ?l14 ?c14 ?k14 ?a15 ?l15 ?c15 ?k15 ?a16 ?l16 ?c16 ?k16 ?z_abs ?z_all ?z_bool ?z_int ?z_isinstance ?z_len ?z_list ?z_max ?z_range ?z_repr ?z_tuple ?z_zip
    (case a0 => k_is)
    (case l0 => k_is)
    (case c0 => k_is)
    (case k0 => k_is)
    (case a1 => k_is)
    (case l1 => k_is)
    (case c1 => k_is)
    (case k1 => k_is)
    (case a2 => k_is)
    (case l2 => k_is)
    (case c2 => k_is)
    (case k2 => k_is)
    (case a3 => k_is)
    (case l3 => k_is)
    (case c3 => k_is)
    (case k3 => k_is)
    (case t3 => k_is)
    (case a4 => k_is)
    (case l4 => k_is)
    (case c4 => k_is)
    (case k4 => k_is)
    (case a5 => k_is)
    (case l5 => k_is)
    (case c5 => k_is)
    (case k5 => k_is)
    (case a6 => k_is)
    (case l6 => k_is)
    (case c6 => k_is)
    (case k6 => k_is)
    (case a7 => k_is)
    (case l7 => k_is)
    (case c7 => k_is)
    (case k7 => k_is)
    (case a8 => k_is)
    (case l8 => k_is)
    (case c8 => k_is)
    (case k8 => k_is)
    (case a9 => k_is)
    (case l9 => k_is)
    (case c9 => k_is)
    (case k9 => k_is)
    (case a10 => k_is)
    (case l10 => k_is)
    (case c10 => k_is)
    (case k10 => k_is)
    (case a11 => k_is)
    (case l11 => k_is)
    (case c11 => k_is)
    (case k11 => k_is)
    (case a12 => k_is)
    (case l12 => k_is)
    (case c12 => k_is)
    (case k12 => k_is)
    (case a13 => k_is)
    (case l13 => k_is)
    (case c13 => k_is)
    (case k13 => k_is)
    (case a14 => k_is)
    (case l14 => k_is)
    (case c14 => k_is)
    (case k14 => k_is)
    (case a15 => k_is)
    (case l15 => k_is)
    (case c15 => k_is)
    (case k15 => k_is)
    (case a16 => k_is)
    (case l16 => k_is)
    (case c16 => k_is)
    (case k16 => k_is)
    (case z_abs => k_is)
    (case z_all => k_is)
    (case z_bool => k_is)
    (case z_int => k_is)
    (case z_isinstance => k_is)
    (case z_len => k_is)
    (case z_list => k_is)
    (case z_max => k_is)
    (case z_range => k_is)
    (case z_repr => k_is)
    (case z_tuple => k_is)
    (case z_zip => k_is)
#print axioms PySem.Challenge.cw_roundsheld_k01_integers_rows_and_lots_holds
