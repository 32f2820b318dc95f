import PyProof.Rows.All
import Wide.All
import OpenK.AllK
import Wide.FinOn
import HandS.ForMost
import HandS.ForExc
import HandS.ExcInit
import HandS.ExcField
import HandS.IsInst
import HandS.Deep
import HandS.Conv
import HandS.TupAny
import HandS.TupMul
import HandS.SortInts
import HandS.Sort
import HandS.Evl
import HandS.Walk
import KE.GoesMore
import HandS.WordsExc
import HandS.Keys
import KE.KSortTup
import PySem.Challenge.RW_rulerows_k08_whole_fitting_cases
set_option Elab.async false
set_option linter.all false
set_option maxRecDepth 100000
set_option maxHeartbeats 8000000
/-! FcA: values as data; a heap within a heap; what an expression comes to, without the heap in sight. -/
namespace Fc
open PySem PySem.Spec PyProof.Rows L2
open Evl (Ex)

abbrev PD := PyData
mutual
inductive Dd (H : Hp) : V → PD → Prop
  | non : Dd H .non .none
  | bl (b : Bool) : Dd H (.bl b) (.bool b)
  | int (i : Int) : Dd H (.int i) (.int i)
  | str (x : Str) : Dd H (.str x) (.str x)
  | lst {a : Addr} {xs : List V} {ds : List PD} : H a = some (.lst xs) → DdAll H xs ds → Dd H (.ref a) (.list ds)
  | tup {a : Addr} {xs : List V} {ds : List PD} : H a = some (.tup xs) → DdAll H xs ds → Dd H (.ref a) (.tuple ds)
inductive DdAll (H : Hp) : List V → List PD → Prop
  | nil : DdAll H [] []
  | cons {v : V} {vs : List V} {d : PD} {ds : List PD} : Dd H v d → DdAll H vs ds → DdAll H (v :: vs) (d :: ds)
end
section
variable {G H G' H' : Hp}
mutual
theorem Dd.ex (e : Ex G H) : ∀ (d : PD) (v : V), Dd G v d → Dd H v d
  | .none, _, h => by cases h; exact .non
  | .bool b, _, h => by cases h; exact .bl b
  | .int i, _, h => by cases h; exact .int i
  | .str x, _, h => by cases h; exact .str x
  | .list ds, _, h => by
    cases h with
    | lst h1 h2 => exact .lst (e _ _ h1) (DdAll.ex e ds _ h2)
  | .tuple ds, _, h => by
    cases h with
    | tup h1 h2 => exact .tup (e _ _ h1) (DdAll.ex e ds _ h2)
  | .dict _, _, h => by cases h
theorem DdAll.ex (e : Ex G H) : ∀ (ds : List PD) (vs : List V), DdAll G vs ds → DdAll H vs ds
  | [], _, h => by cases h; exact .nil
  | d :: ds, _, h => by
    cases h with
    | cons h1 h2 => exact .cons (Dd.ex e d _ h1) (DdAll.ex e ds _ h2)
end
theorem Dd.up {v : V} {d : PD} (h : Dd G v d) (e : Ex G H) : Dd H v d := Dd.ex e d v h
theorem DdAll.up {vs : List V} {ds : List PD} (h : DdAll G vs ds) (e : Ex G H) : DdAll H vs ds := DdAll.ex e ds vs h
mutual
theorem Dd.dp {K : PySem.W.Frag} : ∀ (d : PD) (v : V), Dd G v d → Dp K G v d
  | .none, _, h => by cases h; exact .non
  | .bool b, _, h => by cases h; exact .bl b
  | .int i, _, h => by cases h; exact .int i
  | .str x, _, h => by cases h; exact .str x
  | .list ds, _, h => by
    cases h with
    | lst h1 h2 => exact .lst (SqL.of h1) (DdAll.dp ds _ h2)
  | .tuple ds, _, h => by
    cases h with
    | tup h1 h2 => exact .tup (SqT.of h1) (DdAll.dp ds _ h2)
  | .dict _, _, h => by cases h
theorem DdAll.dp {K : PySem.W.Frag} : ∀ (ds : List PD) (vs : List V), DdAll G vs ds → DpAll K G vs ds
  | [], _, h => by cases h; exact .nil
  | d :: ds, _, h => by
    cases h with
    | cons h1 h2 => exact .cons (Dd.dp d _ h1) (DdAll.dp ds _ h2)
end
theorem Dd.toDp {K : PySem.W.Frag} {v : V} {d : PD} (h : Dd G v d) : Dp K G v d := Dd.dp d v h
theorem DdAll.length : ∀ {vs : List V} {ds : List PD}, DdAll G vs ds → vs.length = ds.length
  | _, _, .nil => rfl
  | _, _, .cons _ t => congrArg (· + 1) (DdAll.length t)
theorem DdAll.get : ∀ {vs : List V} {ds : List PD} {i : Nat} {d : PD}, DdAll G vs ds → ds[i]? = some d → ∃ v, vs[i]? = some v ∧ Dd G v d
  | _, _, _, _, .nil, e => by simp at e
  | _, _, 0, d, .cons r _, e => by simp at e; subst e; exact ⟨_, rfl, r⟩
  | _, _, i + 1, d, .cons _ t, e => by
    obtain ⟨u, h1, h2⟩ := DdAll.get (i := i) (d := d) t (by simpa using e)
    exact ⟨u, by simpa using h1, h2⟩
theorem DdAll.getV : ∀ {vs : List V} {ds : List PD} {i : Nat} {v : V}, DdAll G vs ds → vs[i]? = some v → ∃ d, ds[i]? = some d ∧ Dd G v d
  | _, _, _, _, .nil, e => by simp at e
  | _, _, 0, d, .cons r _, e => by simp at e; subst e; exact ⟨_, rfl, r⟩
  | _, _, i + 1, d, .cons _ t, e => by
    obtain ⟨u, h1, h2⟩ := DdAll.getV (i := i) (v := d) t (by simpa using e)
    exact ⟨u, by simpa using h1, h2⟩
theorem DdAll.append : ∀ {xs ys : List V} {ds es : List PD}, DdAll G xs ds → DdAll G ys es → DdAll G (xs ++ ys) (ds ++ es)
  | _, _, _, _, .nil, s => s
  | _, _, _, _, .cons r t, s => .cons r (DdAll.append t s)
theorem DdAll.take : ∀ {xs : List V} {ds : List PD} (n : Nat), DdAll G xs ds → DdAll G (xs.take n) (ds.take n)
  | _, _, 0, _ => .nil
  | _, _, _ + 1, .nil => .nil
  | _, _, n + 1, .cons r t => .cons r (DdAll.take n t)
theorem DdAll.drop : ∀ {xs : List V} {ds : List PD} (n : Nat), DdAll G xs ds → DdAll G (xs.drop n) (ds.drop n)
  | _, _, 0, r => r
  | _, _, _ + 1, .nil => .nil
  | _, _, n + 1, .cons _ t => DdAll.drop n t
theorem DdAll.one {v : V} {d : PD} (h : Dd G v d) : DdAll G [v] [d] := .cons h .nil
theorem DdAll.ints : ∀ {vs : List V} {ns : List Int}, DdAll G vs (ns.map .int) → vs = ns.map V.int
  | _, [], h => by cases h; rfl
  | _, n :: ns, h => by
    cases h with
    | cons h1 h2 => cases h1; rw [DdAll.ints (ns := ns) h2]; rfl
theorem DdAll.ofInts : ∀ (ns : List Int), DdAll G (ns.map V.int) (ns.map .int)
  | [] => .nil
  | n :: ns => .cons (.int n) (DdAll.ofInts ns)
theorem DdAll.bls : ∀ {vs : List V} {ns : List Bool}, DdAll G vs (ns.map .bool) → vs = ns.map V.bl
  | _, [], h => by cases h; rfl
  | _, n :: ns, h => by
    cases h with
    | cons h1 h2 => cases h1; rw [DdAll.bls (ns := ns) h2]; rfl
theorem DdAll.rep {xs : List V} {ds : List PD} (h : DdAll G xs ds) : ∀ k : Nat, DdAll G (List.replicate k xs).flatten (List.replicate k ds).flatten
  | 0 => .nil
  | k + 1 => by
    rw [List.replicate_succ, List.replicate_succ, List.flatten_cons, List.flatten_cons]
    exact h.append (DdAll.rep h k)

/-- G is a part of H, G' of H'; what is new in G' is new in H' -/
structure Nx (G H G' H' : Hp) : Prop where
  g : Ex G G'
  h : Ex H H'
  s : Ex G' H'
  n : ∀ a, G a = none → H a ≠ none → (∀ xs, H a ≠ some (.tup xs)) → G' a = none
theorem Nx.refl (e : Ex G H) : Nx G H G H := ⟨Ex.refl G, Ex.refl H, e, fun _ z _ _ => z⟩
theorem Nx.trans {G1 H1 G2 H2 : Hp} (a : Nx G H G1 H1) (b : Nx G1 H1 G2 H2) : Nx G H G2 H2 :=
  ⟨a.g.trans b.g, a.h.trans b.h, b.s, fun x z1 z2 z3 => by
    cases q : H x with
    | none => exact absurd q z2
    | some o =>
      refine b.n x (a.n x z1 z2 z3) ?_ ?_
      · rw [a.h x o q]; exact fun z => by cases z
      · intro xs h
        rw [a.h x o q] at h
        exact z3 xs (q.trans h)⟩
theorem Nx.no {D : Addr} {o : HO} (e : Nx G H G' H') (hG : G D = none) (hH : H D = some o) (ht : ∀ xs, o ≠ .tup xs) : G' D = none :=
  e.n D hG (by rw [hH]; exact fun z => by cases z) (by intro xs h; rw [hH] at h; exact ht xs (Option.some.inj h))
theorem Nx.nl {D : Addr} {xs : List V} (e : Nx G H G' H') (hG : G D = none) (hH : H D = some (.lst xs)) : G' D = none := e.no hG hH fun _ z => by cases z
theorem free_of {p : Addr} (e : Ex G H) (hp : H p = none) : G p = none := Evl.fresh_back e hp
theorem Ex.both {p : Addr} {o : HO} (e : Ex G H) : Ex (upd G p o) (upd H p o) := fun a u h => by
  by_cases z : a = p
  · subst z; rw [upd_same] at h ⊢; exact h
  · rw [upd_ne z] at h ⊢; exact e a u h
theorem Nx.new {p : Addr} {o : HO} (e : Ex G H) (hp : H p = none) : Nx G H (upd G p o) (upd H p o) :=
  ⟨Ex.new (free_of e hp), Ex.new hp, Fc.Ex.both e, fun a z1 z2 _ => by
    have ne : a ≠ p := fun z => z2 (by rw [z]; exact hp)
    rw [upd_ne ne]; exact z1⟩
/-- a thing outside G may change -/
theorem Nx.mut {p : Addr} {o : HO} {G0 H0 : Hp} (e : Nx G0 H0 G H) (h0 : H0 p = none) (hg : G p = none) : Nx G0 H0 G (upd H p o) :=
  ⟨e.g, Ex.mut e.h h0, Ex.mut e.s hg, e.n⟩
/-- H may grow by what G need not know -/
theorem Nx.more {G0 H0 : Hp} (e : Nx G0 H0 G H) (m : Ex H H') : Nx G0 H0 G H' := ⟨e.g, e.h.trans m, e.s.trans m, e.n⟩
/-- a thing of H becomes one of G -/
theorem Nx.add {p : Addr} {o : HO} {G0 H0 : Hp} (e : Nx G0 H0 G H) (h0 : H0 p = none) (hg : G p = none) (hh : H p = some o) : Nx G0 H0 (upd G p o) H :=
  ⟨e.g.trans (Ex.new hg), e.h, fun a u h => by
    by_cases z : a = p
    · subst z; rw [upd_same] at h; rw [hh]; exact h
    · rw [upd_ne z] at h; exact e.s a u h,
    fun a z1 z2 z3 => by
      have ne : a ≠ p := fun z => z2 (by rw [z]; exact h0)
      rw [upd_ne ne]; exact e.n a z1 z2 z3⟩
/-- a tuple of H becomes one of G -/
theorem Nx.addT {p : Addr} {xs : List V} {G0 H0 : Hp} (e : Nx G0 H0 G H) (hh : H p = some (.tup xs)) : ∃ G1, Nx G0 H0 G1 H ∧ Ex G G1 ∧ G1 p = some (.tup xs) := by
  cases hg : G p with
  | some o =>
    have := e.s _ _ hg
    rw [hh] at this
    exact ⟨G, e, Ex.refl G, by rw [hg, ← this]⟩
  | none =>
    refine ⟨upd G p (.tup xs), ⟨e.g.trans (Ex.new hg), e.h, fun a u h => ?_, fun a z1 z2 z3 => ?_⟩, Ex.new hg, upd_same⟩
    · by_cases z : a = p
      · subst z; rw [upd_same] at h; rw [hh]; exact h
      · rw [upd_ne z] at h; exact e.s a u h
    · have ne : a ≠ p := fun z => by
        subst z
        cases q : H0 a with
        | none => exact z2 q
        | some o =>
          have := e.h _ _ q
          rw [hh] at this
          exact z3 xs (q.trans this.symm)
      rw [upd_ne ne]
      exact e.n a z1 z2 z3
end

/-! ### the stream of draws -/
/-- at S a list [cells, c, k], c and k not negative -/
def strO (S a : Addr) : HO := .ext fun h => ∃ (c k : Int) (t u : Tok) (n : Nat), 0 ≤ c ∧ 0 ≤ k ∧ h.get? S = some ({ cls := .type "list", data := .seq #[.ref a, .int c t, .int k u] n } : Obj)
def Strm (G : Hp) (S : Addr) : Prop := ∃ a ns, G S = some (strO S a) ∧ G a = some (.lst (List.map V.int ns))

/-! ### what a slot holds -/
inductive Sl where
  | no | da (d : PD) | at (v : V) | st
def SlV (G : Hp) (v : V) : Sl → Prop
  | .no => True
  | .da d => Dd G v d
  | .at u => v = u
  | .st => ∃ S, v = .ref S ∧ Strm G S
def SlO (G : Hp) (o : Option V) (s : Sl) : Prop := s = .no ∨ ∃ v, o = some v ∧ SlV G v s
def Rel (G : Hp) : List Sl → L2.St → Prop
  | [], [] => True
  | s :: ρ, o :: σ => SlO G o s ∧ Rel G ρ σ
  | _, _ => False
def SlAll (G : Hp) : List V → List Sl → Prop
  | [], [] => True
  | v :: vs, s :: ss => SlV G v s ∧ SlAll G vs ss
  | _, _ => False
section
variable {G H G' H' : Hp}
theorem Strm.up {S : Addr} (h : Strm G S) (e : Ex G H) : Strm H S := by
  obtain ⟨a, ns, h1, h2⟩ := h
  exact ⟨a, ns, e _ _ h1, e _ _ h2⟩
theorem SlV.up {v : V} : ∀ {s : Sl}, SlV G v s → Ex G H → SlV H v s
  | .no, _, _ => True.intro
  | .da d, h, e => Dd.up h e
  | .at u, h, _ => h
  | .st, ⟨S, h1, h2⟩, e => ⟨S, h1, h2.up e⟩
theorem SlO.up {o : Option V} {s : Sl} (h : SlO G o s) (e : Ex G H) : SlO H o s := by
  rcases h with h | ⟨v, h1, h2⟩
  · exact .inl h
  · exact .inr ⟨v, h1, h2.up e⟩
theorem Rel.up (e : Ex G H) : ∀ {ρ : List Sl} {σ : L2.St}, Rel G ρ σ → Rel H ρ σ
  | [], [], _ => True.intro
  | s :: ρ, o :: σ, ⟨h1, h2⟩ => ⟨h1.up e, Rel.up e h2⟩
  | [], _ :: _, h => h.elim
  | _ :: _, [], h => h.elim
theorem SlAll.up (e : Ex G H) : ∀ {vs : List V} {ss : List Sl}, SlAll G vs ss → SlAll H vs ss
  | [], [], _ => True.intro
  | v :: vs, s :: ss, ⟨h1, h2⟩ => ⟨h1.up e, SlAll.up e h2⟩
  | [], _ :: _, h => h.elim
  | _ :: _, [], h => h.elim
theorem SlAll.length : ∀ {vs : List V} {ss : List Sl}, SlAll G vs ss → vs.length = ss.length
  | [], [], _ => rfl
  | v :: vs, s :: ss, ⟨_, h2⟩ => congrArg (· + 1) (SlAll.length h2)
  | [], _ :: _, h => h.elim
  | _ :: _, [], h => h.elim
theorem SlAll.da : ∀ {vs : List V} {ds : List PD}, SlAll G vs (ds.map .da) → DdAll G vs ds
  | [], [], _ => .nil
  | v :: vs, d :: ds, ⟨h1, h2⟩ => .cons h1 (SlAll.da h2)
  | [], _ :: _, h => h.elim
  | _ :: _, [], h => h.elim
theorem SlAll.ofDa : ∀ {vs : List V} {ds : List PD}, DdAll G vs ds → SlAll G vs (ds.map .da)
  | _, _, .nil => True.intro
  | _, _, .cons h t => ⟨h, SlAll.ofDa t⟩
theorem Rel.length : ∀ {ρ : List Sl} {σ : L2.St}, Rel G ρ σ → ρ.length = σ.length
  | [], [], _ => rfl
  | s :: ρ, o :: σ, ⟨_, h2⟩ => congrArg (· + 1) (Rel.length h2)
  | [], _ :: _, h => h.elim
  | _ :: _, [], h => h.elim
theorem Rel.get : ∀ {ρ : List Sl} {σ : L2.St} {i : Nat} {s : Sl}, Rel G ρ σ → ρ[i]? = some s → s ≠ .no → ∃ v, σ[i]? = some (some v) ∧ SlV G v s
  | s :: ρ, o :: σ, 0, t, ⟨h1, _⟩, e, n => by
    have e' : s = t := by simpa using e
    subst e'
    rcases h1 with h1 | ⟨v, h2, h3⟩
    · exact absurd h1 n
    · exact ⟨v, by rw [h2]; rfl, h3⟩
  | s :: ρ, o :: σ, i + 1, t, ⟨_, h2⟩, e, n => by
    obtain ⟨v, h3, h4⟩ := Rel.get (i := i) (s := t) h2 (by simpa using e) n
    exact ⟨v, by simpa using h3, h4⟩
  | [], [], _, _, _, e, _ => by simp at e
  | [], _ :: _, _, _, h, _, _ => h.elim
  | _ :: _, [], _, _, h, _, _ => h.elim
theorem Rel.set {v : V} {s : Sl} (h : SlV G v s) : ∀ {ρ : List Sl} {σ : L2.St} (i : Nat), Rel G ρ σ → Rel G (ρ.set i s) (σ.set i (some v))
  | [], [], _, _ => True.intro
  | s' :: ρ, o :: σ, 0, ⟨_, h2⟩ => ⟨.inr ⟨v, rfl, h⟩, h2⟩
  | s' :: ρ, o :: σ, i + 1, ⟨h1, h2⟩ => ⟨h1, Rel.set h i h2⟩
  | [], _ :: _, _, h => h.elim
  | _ :: _, [], _, h => h.elim
theorem Rel.unset : ∀ {ρ : List Sl} {σ : L2.St} (i : Nat) (o : Option V), Rel G ρ σ → Rel G (ρ.set i .no) (σ.set i o)
  | [], [], _, _, _ => True.intro
  | s' :: ρ, o :: σ, 0, _, ⟨_, h2⟩ => ⟨.inl rfl, h2⟩
  | s' :: ρ, o :: σ, i + 1, o', ⟨h1, h2⟩ => ⟨h1, Rel.unset i o' h2⟩
  | [], _ :: _, _, _, h => h.elim
  | _ :: _, [], _, _, h => h.elim
/-- the slots of a comprehension's own names forgotten -/
def wipeS (ρ : List Sl) : List Nat → List Sl
  | [] => ρ
  | v :: vs => (wipeS ρ vs).set v .no
theorem Rel.wipe {ρ : List Sl} {σ : L2.St} (h : Rel G ρ σ) : ∀ vs : List Nat, Rel G (wipeS ρ vs) (wipe σ vs)
  | [] => h
  | v :: vs => Rel.unset v none (Rel.wipe h vs)
theorem Rel.nones : ∀ n : Nat, Rel G (List.replicate n .no) (List.replicate n none)
  | 0 => True.intro
  | n + 1 => ⟨.inl rfl, Rel.nones n⟩
theorem Rel.some : ∀ {vs : List V} {ss : List Sl}, SlAll G vs ss → ∀ {ρ : List Sl} {σ : L2.St}, Rel G ρ σ → Rel G (ss ++ ρ) (vs.map Option.some ++ σ)
  | [], [], _, _, _, h => h
  | v :: vs, s :: ss, ⟨h1, h2⟩, _, _, h => ⟨.inr ⟨v, rfl, h1⟩, Rel.some h2 h⟩
  | [], _ :: _, h, _, _, _ => h.elim
  | _ :: _, [], h, _, _, _ => h.elim
/-- at a def's entry -/
theorem Rel.start {N : List Str} {vs : List V} {ss : List Sl} (h : SlAll G vs ss) : Rel G (ss ++ List.replicate (N.length - ss.length) .no) (start N vs) := by
  unfold L2.start
  rw [← h.length]
  exact Rel.some h (Rel.nones _)
end

/-! ### what is known at a place: of the slots, of the part G and the heap H -/
structure As where
  p : L2.St → Hp → Hp → Prop
  m : ∀ {σ : L2.St} {G H G' H' : Hp}, Nx G H G' H' → p σ G H → p σ G' H'
structure Mx where
  p : Hp → Hp → Prop
  m : ∀ {G H G' H' : Hp}, Nx G H G' H' → p G H → p G' H'
def M0 : Mx := ⟨fun _ _ => True, fun _ h => h⟩
/-- from the entry G0, H0: the slots hold ρ, and M -/
def aT (G0 H0 : Hp) (ρ : List Sl) (M : Mx) : As :=
  ⟨fun σ G H => Nx G0 H0 G H ∧ Rel G ρ σ ∧ M.p G H, fun n h => ⟨h.1.trans n, Rel.up n.g h.2.1, M.m n h.2.2⟩⟩
def As.has (A : As) (i : Nat) (s : Sl) : Prop := ∀ σ G H, A.p σ G H → ∃ v, σ[i]? = some (some v) ∧ SlV G v s
theorem has_aT {G0 H0 : Hp} {ρ : List Sl} {M : Mx} {i : Nat} {s : Sl} (h : ρ[i]? = some s) (n : s ≠ .no) : (aT G0 H0 ρ M).has i s := fun _ _ _ a => Rel.get a.2.1 h n

section
variable {X : Cx} {e : Expr}
theorem PE.wk {t t' : TE} (h : PE X e t) (k : ∀ σ H Q, t' σ H Q → t σ H Q) : PE X e t' := ⟨fun pins s σ H Q I q => h.run pins s σ H Q I (k _ _ _ q)⟩
theorem PT.wk {t t' : TT} (h : PT X e t) (k : ∀ σ H Q, t' σ H Q → t σ H Q) : PT X e t' := ⟨fun pins s σ H Q I q => h.run pins s σ H Q I (k _ _ _ q)⟩
theorem PW.wk {t t' : TT} (h : PW X e t) (k : ∀ σ H Q, t' σ H Q → t σ H Q) : PW X e t' := ⟨fun wh pins s σ H Q I q => h.run wh pins s σ H Q I (k _ _ _ q)⟩
theorem PA.wk {es : List Expr} {t t' : TA} (h : PA X es t) (k : ∀ σ H Q, t' σ H Q → t σ H Q) : PA X es t' := ⟨fun pos pins s σ H Q I q => h.run pos pins s σ H Q I (k _ _ _ q)⟩
theorem PS.wk {st : Stmt} {t t' : TS} (h : PS X st t) (k : ∀ D σ H, t' D σ H → t D σ H) : PS X st t' := ⟨fun pins s σ H D I q => h.run pins s σ H D I (k _ _ _ q)⟩
theorem PSs.wk {st : List Stmt} {t t' : TS} (h : PSs X st t) (k : ∀ D σ H, t' D σ H → t D σ H) : PSs X st t' := ⟨fun pins s σ H D I q => h.run pins s σ H D I (k _ _ _ q)⟩
theorem PI.wk {tg : Expr} {t t' : TI} (h : PI X tg e t) (k : ∀ σ H Q, t' σ H Q → t σ H Q) : PI X tg e t' := ⟨fun pins s σ H Q I q => h.run pins s σ H Q I (k _ _ _ q)⟩
theorem PE.never : PE X e (fun _ _ _ => False) := ⟨fun _ _ _ _ _ _ h => h.elim⟩
theorem PT.never : PT X e (fun _ _ _ => False) := ⟨fun _ _ _ _ _ _ h => h.elim⟩
theorem PW.never : PW X e (fun _ _ _ => False) := ⟨fun _ _ _ _ _ _ _ h => h.elim⟩
theorem PE.exi {ι : Sort _} {t : ι → TE} (h : ∀ i, PE X e (t i)) : PE X e (fun σ H Q => ∃ i, t i σ H Q) := ⟨fun pins s σ H Q I ⟨i, q⟩ => (h i).run pins s σ H Q I q⟩
theorem PT.exi {ι : Sort _} {t : ι → TT} (h : ∀ i, PT X e (t i)) : PT X e (fun σ H Q => ∃ i, t i σ H Q) := ⟨fun pins s σ H Q I ⟨i, q⟩ => (h i).run pins s σ H Q I q⟩
theorem PTs.exi {ι : Sort _} {es : List Expr} {t : ι → TT} (h : ∀ i, PTs X es (t i)) : PTs X es (fun σ H Q => ∃ i, t i σ H Q) := ⟨fun pins s σ H Q I ⟨i, q⟩ => (h i).run pins s σ H Q I q⟩
theorem PSs.exi {ι : Sort _} {st : List Stmt} {t : ι → TS} (h : ∀ i, PSs X st (t i)) : PSs X st (fun D σ H => ∃ i, t i D σ H) := ⟨fun pins s σ H D I ⟨i, q⟩ => (h i).run pins s σ H D I q⟩
end

/-- from A the expression comes to one of S, and leaves what stood -/
def tW (A : As) (S : Sl → Prop) : TE := fun σ H Q => ∃ G, Ex G H ∧ A.p σ G H ∧ ∀ d v G' H', S d → Nx G H G' H' → SlV G' v d → Q v H'
def W (X : Cx) (A : As) (e : Expr) (S : Sl → Prop) : Prop := PE X e (tW A S)
abbrev WD (X : Cx) (A : As) (e : Expr) (d : PD) : Prop := W X A e (Eq (.da d))
def tTt (A : As) (B : Bool → Prop) : TT := fun σ H Q => ∃ G, Ex G H ∧ A.p σ G H ∧ ∀ b G' H', B b → Nx G H G' H' → Q b H'
def T (X : Cx) (A : As) (e : Expr) (B : Bool → Prop) : Prop := PT X e (tTt A B)
abbrev TD (X : Cx) (A : As) (e : Expr) (b : Bool) : Prop := T X A e (Eq b)
def Tw (X : Cx) (A : As) (e : Expr) (b : Bool) : Prop := PW X e (tTt A (Eq b))
def tWs (A : As) (L : List Sl → Prop) : TA := fun σ H Q => ∃ G, Ex G H ∧ A.p σ G H ∧ ∀ ds vs G' H', L ds → Nx G H G' H' → SlAll G' vs ds → Q vs H'
def Ws (X : Cx) (A : As) (es : List Expr) (L : List Sl → Prop) : Prop := PA X es (tWs A L)

section
variable {X : Cx} {A : As} {e a b c : Expr} {S Sa Sb : Sl → Prop} {pos : Pos}
theorem W.mk {t : TE} (h : PE X e t) (k : ∀ σ G H Q, Ex G H → A.p σ G H → (∀ d v G' H', S d → Nx G H G' H' → SlV G' v d → Q v H') → t σ H Q) : W X A e S :=
  PE.wk h fun σ H Q ⟨G, s, a, q⟩ => k σ G H Q s a q
theorem W.imp {S' : Sl → Prop} (h : W X A e S) (k : ∀ d, S d → S' d) : W X A e S' := PE.wk h fun σ H Q ⟨G, s, a, q⟩ => ⟨G, s, a, fun d v G' H' sd => q d v G' H' (k d sd)⟩
theorem W.to {d d' : PD} (h : WD X A e d) (k : d = d') : WD X A e d' := k ▸ h
theorem TD.to {b b' : Bool} (h : TD X A e b) (k : b = b') : TD X A e b' := k ▸ h
theorem W.pre {A' : As} (h : W X A e S) (k : ∀ σ G H, A'.p σ G H → A.p σ G H) : W X A' e S := PE.wk h fun σ H Q ⟨G, s, a, q⟩ => ⟨G, s, k σ G H a, q⟩
theorem w_int {i : Int} {j pos} : WD X A (.Constant (.int i) j pos) (.int i) := W.mk pe_int fun σ G H Q s a q => q _ _ G H rfl (Nx.refl s) (Dd.int i)
theorem w_bl {i : Bool} {j pos} : WD X A (.Constant (.bool i) j pos) (.bool i) := W.mk pe_bl fun σ G H Q s a q => q _ _ G H rfl (Nx.refl s) (Dd.bl i)
theorem w_str {i : Str} {j pos} : WD X A (.Constant (.str i) j pos) (.str i) := W.mk pe_str fun σ G H Q s a q => q _ _ G H rfl (Nx.refl s) (Dd.str i)
theorem w_non {j pos} : WD X A (.Constant .none j pos) .none := W.mk pe_non fun σ G H Q s a q => q _ _ G H rfl (Nx.refl s) Dd.non
theorem w_varA {s : Sl} (i : Nat) {x : Str} (h : A.has i s) (hN : X.N[i]? = some x) (hv : Vis X.env.scope x) (hd : (x == ("__debug__" : Str)) = false := by decide) (hcd : (x == ("__classdict__" : Str)) = false := by decide) :
    W X A (.Name x pos) (Eq s) := W.mk (pe_var hN hv hd hcd) fun σ G H Q ex ha q => by
  obtain ⟨v, h1, h2⟩ := h σ G H ha
  exact ⟨v, h1, q _ _ G H rfl (Nx.refl ex) h2⟩
theorem w_var {G0 H0 : Hp} {ρ : List Sl} {M : Mx} {s : Sl} (i : Nat) {x : Str} (h : ρ[i]? = some s := by rfl) (hn : s ≠ .no := by exact fun z => nomatch z) (hN : X.N[i]? = some x := by rfl)
    (hv : Vis X.env.scope x := by first | exact Or.inl rfl | exact Or.inr (Or.inl rfl) | exact Or.inr (Or.inr rfl)) (hd : (x == ("__debug__" : Str)) = false := by decide) (hcd : (x == ("__classdict__" : Str)) = false := by decide) :
    W X (aT G0 H0 ρ M) (.Name x pos) (Eq s) := w_varA i (has_aT h hn) hN hv hd hcd
/-- a module's constant -/
theorem w_globI {x : Str} {n : Int} {t : Tok} (hm : X.mg x = some (.int n t)) (hg : Gl X x := by rfl) (hd : (x == ("__debug__" : Str)) = false := by decide) : WD X A (.Name x pos) (.int n) :=
  W.mk (pe_glob (v := .int n) hg hm ⟨t, rfl⟩ hd) fun σ G H Q s a q => q _ _ G H rfl (Nx.refl s) (Dd.int n)

/-! ### operators -/
theorem w_op {op : Operator} {r : R2} (ho : OpR X (binaryOp op) r) (ha : W X A a Sa) (hb : W X A b Sb)
    (k : ∀ d e x y G H, Sa d → Sb e → SlV G x d → SlV G y e → Ex G H → ∀ Q : VK, (∀ f v G' H', S f → Nx G H G' H' → SlV G' v f → Q v H') → r x y H Q) : W X A (.BinOp a op b pos) S :=
  W.mk (pe_op ho ha hb) fun σ G H Q s as q => ⟨G, s, as, fun d x G1 H1 hd n1 dx => ⟨G1, n1.s, A.m n1 as, fun e y G2 H2 he n2 dy =>
    k d e x y G2 H2 hd he (dx.up n2.g) dy n2.s _ fun f v G3 H3 hf n3 df => q f v G3 H3 hf ((n1.trans n2).trans n3) df⟩⟩
/-- some int of P -/
def IntS (P : Int → Prop) : Sl → Prop := fun s => ∃ i, s = .da (.int i) ∧ P i
theorem intS_of {i : Int} {s : Sl} (h : Eq (Sl.da (.int i)) s) : IntS (Eq i) s := ⟨i, h.symm, rfl⟩
theorem w_ints {op : Operator} {C : Int → Int → Prop} {g : Int → Int → Int} {Pa Pb P : Int → Prop} (ho : OpR X (binaryOp op) (rI C fun i j => .int (g i j))) (ha : W X A a (IntS Pa)) (hb : W X A b (IntS Pb))
    (k : ∀ i j, Pa i → Pb j → C i j ∧ P (g i j)) : W X A (.BinOp a op b pos) (IntS P) := w_op ho ha hb (by
  rintro d e x y G H ⟨i, rfl, hi⟩ ⟨j, rfl, hj⟩ dx dy s Q q
  cases dx
  cases dy
  exact ⟨i, j, rfl, rfl, (k i j hi hj).1, q _ _ G H ⟨_, rfl, (k i j hi hj).2⟩ (Nx.refl s) (Dd.int _)⟩)
theorem rI0_rI {f : Value → Value → Sem Value} {g : Int → Int → V} (h : OpR X f (rI0 g)) : OpR X f (rI (fun _ _ => True) g) := by
  intro pins s σ H x y v u Q I rx ry q
  obtain ⟨i, j, e1, e2, _, q⟩ := q
  exact h pins s σ H x y v u Q I rx ry ⟨i, j, e1, e2, q⟩
theorem w_intsD {op : Operator} {C : Int → Int → Prop} {g : Int → Int → Int} {i j : Int} (ho : OpR X (binaryOp op) (rI C fun i j => .int (g i j))) (ha : WD X A a (.int i)) (hb : WD X A b (.int j)) (hc : C i j) : WD X A (.BinOp a op b pos) (.int (g i j)) :=
  (w_ints (Pa := Eq i) (Pb := Eq j) (P := Eq (g i j)) ho (ha.imp fun _ h => intS_of h) (hb.imp fun _ h => intS_of h) (by rintro _ _ rfl rfl; exact ⟨hc, rfl⟩)).imp (by rintro _ ⟨_, rfl, rfl⟩; rfl)
theorem w_add {i j : Int} (ha : WD X A a (.int i)) (hb : WD X A b (.int j)) : WD X A (.BinOp a .Add b pos) (.int (i + j)) := w_intsD (rI0_rI op_add) ha hb True.intro
theorem w_sub {i j : Int} (ha : WD X A a (.int i)) (hb : WD X A b (.int j)) : WD X A (.BinOp a .Sub b pos) (.int (i - j)) := w_intsD (rI0_rI op_sub) ha hb True.intro
theorem w_neg {i : Int} (ha : WD X A a (.int i)) : WD X A (.UnaryOp .USub a pos) (.int (-i)) := W.mk (pe_un un_neg ha) fun σ G H Q s as q => ⟨G, s, as, by
  rintro d v G1 H1 rfl n1 dx
  cases dx
  exact ⟨i, rfl, q _ _ G1 H1 rfl n1 (Dd.int _)⟩⟩
/-- t + u, tuples -/
theorem w_catT {xs ys : List PD} (ha : WD X A a (.tuple xs)) (hb : WD X A b (.tuple ys)) (hz : xs.length + ys.length ≤ 16777216) : WD X A (.BinOp a .Add b pos) (.tuple (xs ++ ys)) := w_op op_catA ha hb (by
  rintro d e x y G H rfl rfl dx dy s Q q
  cases dx with
  | @tup p us _ h1 h2 =>
  cases dy with
  | @tup p2 us2 _ h3 h4 =>
  refine ⟨p, p2, us, us2, rfl, rfl, SqT.of (s _ _ h1), SqT.of (s _ _ h3), by rw [h2.length, h4.length, sizeLine_eq]; exact hz, fun e => ?_, fun _ e => ?_, fun _ _ p hp => ?_⟩
  · subst e
    cases h2
    exact q _ _ G H rfl (Nx.refl s) (Dd.tup h3 h4)
  · subst e
    cases h4
    exact q (.da (.tuple xs)) _ G H (by rw [List.append_nil]) (Nx.refl s) (Dd.tup h1 h2)
  · exact q _ _ _ _ rfl (Nx.new s hp) (Dd.tup upd_same ((h2.append h4).up (Ex.new (free_of s hp)))))
/-- xs + ys, lists -/
theorem w_catL {xs ys : List PD} (ha : WD X A a (.list xs)) (hb : WD X A b (.list ys)) (hz : xs.length + ys.length ≤ 16777216) : WD X A (.BinOp a .Add b pos) (.list (xs ++ ys)) := w_op op_cat ha hb (by
  rintro d e x y G H rfl rfl dx dy s Q q
  cases dx with
  | @lst p us _ h1 h2 =>
  cases dy with
  | @lst p2 us2 _ h3 h4 =>
  refine ⟨p, p2, us, us2, rfl, rfl, s _ _ h1, s _ _ h3, by rw [h2.length, h4.length, sizeLine_eq]; exact hz, fun p hp => ?_⟩
  exact q _ _ _ _ rfl (Nx.new s hp) (Dd.lst upd_same ((h2.append h4).up (Ex.new (free_of s hp)))))

/-! ### comparisons -/
def CmpOk (X : Cx) (op : CmpOp) (d e : PD) (k : Bool) : Prop := ∃ r, OpR X (compareOp op) r ∧ ∀ x y G H, Dd G x d → Dd G y e → Ex G H → ∀ Q : VK, Q (.bl k) H → r x y H Q
theorem cmp_ints {op : CmpOp} {g : Int → Int → Bool} {i j : Int} (ho : OpR X (compareOp op) (rI0 fun i j => .bl (g i j))) : CmpOk X op (.int i) (.int j) (g i j) := ⟨_, ho, fun x y G H dx dy s Q q => by
  cases dx
  cases dy
  exact ⟨i, j, rfl, rfl, q⟩⟩
theorem cmp_lt {i j : Int} : CmpOk X .Lt (.int i) (.int j) (decide (i < j)) := cmp_ints op_lt
theorem cmp_le {i j : Int} : CmpOk X .LtE (.int i) (.int j) (decide (i ≤ j)) := cmp_ints op_le
theorem cmp_gt {i j : Int} : CmpOk X .Gt (.int i) (.int j) (decide (j < i)) := cmp_ints op_gt
theorem cmp_eqI {i j : Int} : CmpOk X .Eq (.int i) (.int j) (decide (i = j)) := ⟨_, op_eq, fun x y G H dx dy s Q q => by
  cases dx
  cases dy
  refine ⟨rfl, ?_⟩
  have e : decide (V.int i = V.int j) = decide (i = j) := by rw [Bool.eq_iff_iff]; simp
  rw [e]
  exact q⟩
theorem cmp_neI {i j : Int} : CmpOk X .NotEq (.int i) (.int j) (!decide (i = j)) := ⟨_, op_ne, fun x y G H dx dy s Q q => by
  cases dx
  cases dy
  refine ⟨rfl, ?_⟩
  have e : decide (V.int i = V.int j) = decide (i = j) := by rw [Bool.eq_iff_iff]; simp
  rw [e]
  exact q⟩
theorem cmp_eqS {i j : Str} : CmpOk X .Eq (.str i) (.str j) (decide (i = j)) := ⟨_, op_eq, fun x y G H dx dy s Q q => by
  cases dx
  cases dy
  refine ⟨rfl, ?_⟩
  have e : decide (V.str i = V.str j) = decide (i = j) := by rw [Bool.eq_iff_iff]; simp
  rw [e]
  exact q⟩
theorem cmp_neS {i j : Str} : CmpOk X .NotEq (.str i) (.str j) (!decide (i = j)) := ⟨_, op_ne, fun x y G H dx dy s Q q => by
  cases dx
  cases dy
  refine ⟨rfl, ?_⟩
  have e : decide (V.str i = V.str j) = decide (i = j) := by rw [Bool.eq_iff_iff]; simp
  rw [e]
  exact q⟩
theorem cmp_eqB {i j : Bool} : CmpOk X .Eq (.bool i) (.bool j) (decide (i = j)) := ⟨_, op_eq, fun x y G H dx dy s Q q => by
  cases dx
  cases dy
  refine ⟨rfl, ?_⟩
  have e : decide (V.bl i = V.bl j) = decide (i = j) := by rw [Bool.eq_iff_iff]; simp
  rw [e]
  exact q⟩
/-- is None -/
def isNoneD : PD → Bool
  | .none => true
  | _ => false
theorem Dd.isN {G : Hp} {x : V} {d : PD} (h : Dd G x d) : decide (x = .non) = isNoneD d := by
  cases h <;> rfl
theorem cmp_isN {d : PD} : CmpOk X .Is d .none (isNoneD d) := ⟨_, op_isN, fun x y G H dx dy s Q q => by
  cases dy
  refine ⟨rfl, ?_⟩
  rw [dx.isN]
  exact q⟩
/-- in, not in, of flat items -/
def flatD : PD → Bool
  | .none => true
  | .bool _ => true
  | .int _ => true
  | .str _ => true
  | _ => false
theorem ints_flat : ∀ ns : List Int, (ns.map V.int).all flatV = true
  | [] => rfl
  | _ :: ns => by rw [List.map_cons, List.all_cons, ints_flat ns]; rfl
theorem inV_ints (i : Int) : ∀ ns : List Int, inV (.int i) (ns.map V.int) = decide (i ∈ ns)
  | [] => by simp [inV]
  | n :: ns => by
    have ih := inV_ints i ns
    unfold inV at ih ⊢
    rw [List.map_cons, List.any_cons, ih]
    have e : eqV (V.int n) (V.int i) = decide (n = i) := by
      show (n == i) = decide (n = i)
      rw [Bool.eq_iff_iff]; simp
    rw [e]
    by_cases h : n = i
    · subst h; simp
    · have h' : ¬ i = n := fun z => h z.symm
      simp [h, h']
theorem cmp_in {i : Int} {ns : List Int} : CmpOk X .In (.int i) (.tuple (ns.map .int)) (decide (i ∈ ns)) := ⟨_, op_in_seq, fun x y G H dx dy s Q q => by
  cases dx
  cases dy with
  | @tup p us _ h1 h2 =>
  have e := h2.ints
  subst e
  refine ⟨p, _, rfl, .inr (SqT.of (s _ _ h1)), rfl, ints_flat ns, ?_⟩
  rw [inV_ints]
  exact q⟩
theorem cmp_notIn {i : Int} {ns : List Int} : CmpOk X .NotIn (.int i) (.tuple (ns.map .int)) (!decide (i ∈ ns)) := ⟨_, op_notIn_seq, fun x y G H dx dy s Q q => by
  cases dx
  cases dy with
  | @tup p us _ h1 h2 =>
  have e := h2.ints
  subst e
  refine ⟨p, _, rfl, .inr (SqT.of (s _ _ h1)), rfl, ints_flat ns, ?_⟩
  rw [inV_ints]
  exact q⟩
/-- data in a list -/
theorem cmp_inD {d : PD} {ds : List PD} (hu : X.A.units + 65 < cLine) (h1 : SeqAt.shaped d = true) (h2 : SeqAt.shaped (.list ds) = true) : CmpOk X .In d (.list ds) (ds.any fun z => PyData.eqv z d) := ⟨_, op_inD hu, fun x y G H dx dy s Q q =>
  ⟨d, ds, (dx.up s).toDp, (dy.up s).toDp, h1, h2, q⟩⟩

theorem w_cmp {op : CmpOp} {d e' : PD} {k : Bool} (h : CmpOk X op d e' k) (ha : WD X A a d) (hb : WD X A b e') (hm : behindInMarks op b = false := by first | exact nomark _ | rfl) : WD X A (.Compare a [op] [b] pos) (.bool k) := by
  obtain ⟨r, ho, hk⟩ := h
  refine W.mk (pe_cmpR ho ha hb hm) fun σ G H Q s as q => ⟨G, s, as, ?_⟩
  rintro _ x G1 H1 rfl n1 dx
  refine ⟨G1, n1.s, A.m n1 as, ?_⟩
  rintro _ y G2 H2 rfl n2 dy
  exact hk x y G2 H2 (Dd.up dx n2.g) dy n2.s _ (q _ _ G2 H2 rfl (n1.trans n2) (Dd.bl _))
theorem t_cmp {op : CmpOp} {d e' : PD} {k : Bool} (h : CmpOk X op d e' k) (ha : WD X A a d) (hb : WD X A b e') (hm : behindInMarks op b = false := by first | exact nomark _ | rfl) : TD X A (.Compare a [op] [b] pos) k := by
  obtain ⟨r, ho, hk⟩ := h
  refine PT.wk (pt_cmpR ho ha hb hm) ?_
  rintro σ H Q ⟨G, s, as, q⟩
  refine ⟨G, s, as, ?_⟩
  rintro _ x G1 H1 rfl n1 dx
  refine ⟨G1, n1.s, A.m n1 as, ?_⟩
  rintro _ y G2 H2 rfl n2 dy
  exact hk x y G2 H2 (Dd.up dx n2.g) dy n2.s _ ⟨_, rfl, q _ G2 H2 rfl (n1.trans n2)⟩
/-- n == i, n open -/
theorem t_eqQ {P : Int → Prop} {j : Int} (ha : W X A a (IntS P)) (hb : WD X A b (.int j)) : T X A (.Compare a [.Eq] [b] pos) (fun k => ∃ i, P i ∧ k = decide (i = j)) := by
  refine PT.wk (pt_cmpR op_eq ha hb (nomark _)) ?_
  rintro σ H Q ⟨G, s, as, q⟩
  refine ⟨G, s, as, ?_⟩
  rintro _ x G1 H1 ⟨i, rfl, hi⟩ n1 dx
  refine ⟨G1, n1.s, A.m n1 as, ?_⟩
  rintro _ y G2 H2 rfl n2 dy
  cases dx
  cases dy
  refine ⟨rfl, _, rfl, ?_⟩
  have e : decide (V.int i = V.int j) = decide (i = j) := by rw [Bool.eq_iff_iff]; simp
  rw [e]
  exact q _ G2 H2 ⟨i, hi, rfl⟩ (n1.trans n2)
/-- a <= b <= c -/
theorem w_chain {op op' : CmpOp} {d e' f : PD} {k k' : Bool} (h : CmpOk X op d e' k) (h' : CmpOk X op' e' f k') (ha : WD X A a d) (hb : WD X A b e') (hc : WD X A c f)
    (hm : lastMarks [op, op'] [b, c] = false := by with_unfolding_all rfl) : WD X A (.Compare a [op, op'] [b, c] pos) (.bool (k && k')) := by
  obtain ⟨r, ho, hk⟩ := h
  obtain ⟨r', ho', hk'⟩ := h'
  refine W.mk (pe_chain ho ho' ha hb hc hm) fun σ G H Q s as q => ⟨G, s, as, ?_⟩
  rintro _ x G1 H1 rfl n1 dx
  refine ⟨G1, n1.s, A.m n1 as, ?_⟩
  rintro _ y G2 H2 rfl n2 dy
  refine hk x y G2 H2 (Dd.up dx n2.g) dy n2.s _ ⟨k, rfl, ?_⟩
  cases k with
  | false => exact iteF (q _ _ G2 H2 rfl (n1.trans n2) (Dd.bl _))
  | true =>
    refine iteT ⟨G2, n2.s, A.m (n1.trans n2) as, ?_⟩
    rintro _ z G3 H3 rfl n3 dz
    exact hk' y z G3 H3 (Dd.up dy n3.g) dz n3.s _ (q _ _ G3 H3 rfl ((n1.trans n2).trans n3) (Dd.bl _))
theorem t_chain {op op' : CmpOp} {d e' f : PD} {k k' : Bool} (h : CmpOk X op d e' k) (h' : CmpOk X op' e' f k') (ha : WD X A a d) (hb : WD X A b e') (hc : WD X A c f)
    (hm : lastMarks [op, op'] [b, c] = false := by with_unfolding_all rfl) : TD X A (.Compare a [op, op'] [b, c] pos) (k && k') := by
  obtain ⟨r, ho, hk⟩ := h
  obtain ⟨r', ho', hk'⟩ := h'
  refine PT.wk (pt_chain ho ho' ha hb hc hm) ?_
  rintro σ H Q ⟨G, s, as, q⟩
  refine ⟨G, s, as, ?_⟩
  rintro _ x G1 H1 rfl n1 dx
  refine ⟨G1, n1.s, A.m n1 as, ?_⟩
  rintro _ y G2 H2 rfl n2 dy
  refine hk x y G2 H2 (Dd.up dx n2.g) dy n2.s _ ⟨k, rfl, ?_⟩
  cases k with
  | false => exact iteF ⟨_, rfl, q _ G2 H2 rfl (n1.trans n2)⟩
  | true =>
    refine iteT ⟨G2, n2.s, A.m (n1.trans n2) as, ?_⟩
    rintro _ z G3 H3 rfl n3 dz
    exact hk' y z G3 H3 (Dd.up dy n3.g) dz n3.s _ ⟨_, rfl, q _ G3 H3 rfl ((n1.trans n2).trans n3)⟩

/-! ### and, or, not, if .. else -/
variable {x y : Bool} {rest : List Expr}
theorem w_one {op : BoolOp} {S : Sl → Prop} (h : W X A a S) : W X A (.BoolOp op [a] pos) S := pe_one h
theorem w_and (ha : WD X A a (.bool x)) (hb : x = true → WD X A (.BoolOp .And (b :: rest) pos) (.bool y)) : WD X A (.BoolOp .And (a :: b :: rest) pos) (.bool (x && y)) := by
  cases x with
  | true =>
    refine W.mk (pe_and ha (hb rfl)) fun σ G H Q s as q => ⟨G, s, as, ?_⟩
    rintro _ v G1 H1 rfl n1 dx
    cases dx
    exact ⟨true, rfl, iteT ⟨G1, n1.s, A.m n1 as, fun d v G2 H2 hd n2 dv => q d v G2 H2 hd (n1.trans n2) dv⟩⟩
  | false =>
    refine W.mk (pe_and ha PE.never) fun σ G H Q s as q => ⟨G, s, as, ?_⟩
    rintro _ v G1 H1 rfl n1 dx
    cases dx
    exact ⟨false, rfl, iteF (q _ _ G1 H1 rfl n1 (Dd.bl false))⟩
theorem w_or (ha : WD X A a (.bool x)) (hb : x = false → WD X A (.BoolOp .Or (b :: rest) pos) (.bool y)) : WD X A (.BoolOp .Or (a :: b :: rest) pos) (.bool (x || y)) := by
  cases x with
  | false =>
    refine W.mk (pe_or ha (hb rfl)) fun σ G H Q s as q => ⟨G, s, as, ?_⟩
    rintro _ v G1 H1 rfl n1 dx
    cases dx
    exact ⟨false, rfl, iteF ⟨G1, n1.s, A.m n1 as, fun d v G2 H2 hd n2 dv => q d v G2 H2 hd (n1.trans n2) dv⟩⟩
  | true =>
    refine W.mk (pe_or ha PE.never) fun σ G H Q s as q => ⟨G, s, as, ?_⟩
    rintro _ v G1 H1 rfl n1 dx
    cases dx
    exact ⟨true, rfl, iteT (q _ _ G1 H1 rfl n1 (Dd.bl true))⟩
theorem w_not (ha : WD X A a (.bool x)) : WD X A (.UnaryOp .Not a pos) (.bool (!x)) := W.mk (pe_not ha) fun σ G H Q s as q => ⟨G, s, as, by
  rintro _ v G1 H1 rfl n1 dx
  cases dx
  exact ⟨x, rfl, q _ _ G1 H1 rfl n1 (Dd.bl _)⟩⟩
/-- a value that is True or False, as a test -/
theorem t_val (h : WD X A e (.bool x)) (he : ∀ whole, isTrue e X.env whole = (do let v ← whole; standAt e.pos; holding [v] (truthy v)) := by intro _; rfl) : TD X A e x := PT.wk (pt_val h he) (by
  rintro σ H Q ⟨G, s, as, q⟩
  refine ⟨G, s, as, ?_⟩
  rintro _ v G1 H1 rfl n1 dx
  cases dx
  exact ⟨x, rfl, q _ G1 H1 rfl n1⟩)
theorem t_not (h : TD X A e x) : TD X A (.UnaryOp .Not e pos) (!x) := PT.wk (pt_not h) (by
  rintro σ H Q ⟨G, s, as, q⟩
  refine ⟨G, s, as, ?_⟩
  rintro _ G1 H1 rfl n1
  exact q _ G1 H1 rfl n1)
theorem tw_and1 (h : TD X A a x) : Tw X A (.BoolOp .And [a] pos) x := pw_and1 h
theorem tw_or1 (h : TD X A a x) : Tw X A (.BoolOp .Or [a] pos) x := pw_or1 h
theorem tw_and (ha : TD X A a x) (hb : x = true → Tw X A (.BoolOp .And (b :: rest) pos) y) : Tw X A (.BoolOp .And (a :: b :: rest) pos) (x && y) := by
  cases x with
  | true =>
    refine PW.wk (pw_and ha (hb rfl)) ?_
    rintro σ H Q ⟨G, s, as, q⟩
    refine ⟨G, s, as, ?_⟩
    rintro _ G1 H1 rfl n1
    exact iteT ⟨G1, n1.s, A.m n1 as, fun d G2 H2 hd n2 => q d G2 H2 hd (n1.trans n2)⟩
  | false =>
    refine PW.wk (pw_and ha PW.never) ?_
    rintro σ H Q ⟨G, s, as, q⟩
    refine ⟨G, s, as, ?_⟩
    rintro _ G1 H1 rfl n1
    exact iteF (q _ G1 H1 rfl n1)
theorem tw_or (ha : TD X A a x) (hb : x = false → Tw X A (.BoolOp .Or (b :: rest) pos) y) : Tw X A (.BoolOp .Or (a :: b :: rest) pos) (x || y) := by
  cases x with
  | false =>
    refine PW.wk (pw_or ha (hb rfl)) ?_
    rintro σ H Q ⟨G, s, as, q⟩
    refine ⟨G, s, as, ?_⟩
    rintro _ G1 H1 rfl n1
    exact iteF ⟨G1, n1.s, A.m n1 as, fun d G2 H2 hd n2 => q d G2 H2 hd (n1.trans n2)⟩
  | true =>
    refine PW.wk (pw_or ha PW.never) ?_
    rintro σ H Q ⟨G, s, as, q⟩
    refine ⟨G, s, as, ?_⟩
    rintro _ G1 H1 rfl n1
    exact iteT (q _ G1 H1 rfl n1)
theorem t_w (h : Tw X A e x) : TD X A e x := PW.pt h
theorem w_ifT {S : Sl → Prop} (hc : TD X A c true) (ha : W X A a S) : W X A (.IfExp c a b pos) S := W.mk (pe_ifExp hc ha PE.never) fun σ G H Q s as q => ⟨G, s, as, by
  rintro _ G1 H1 rfl n1
  exact iteT ⟨G1, n1.s, A.m n1 as, fun d v G2 H2 hd n2 dv => q d v G2 H2 hd (n1.trans n2) dv⟩⟩
theorem w_ifF {S : Sl → Prop} (hc : TD X A c false) (hb : W X A b S) : W X A (.IfExp c a b pos) S := W.mk (pe_ifExp hc PE.never hb) fun σ G H Q s as q => ⟨G, s, as, by
  rintro _ G1 H1 rfl n1
  exact iteF ⟨G1, n1.s, A.m n1 as, fun d v G2 H2 hd n2 dv => q d v G2 H2 hd (n1.trans n2) dv⟩⟩
/-- if xs: a list -/
theorem t_list {ds : List PD} (h : WD X A e (.list ds)) (he : ∀ whole, isTrue e X.env whole = (do let v ← whole; standAt e.pos; holding [v] (truthy v)) := by intro _; rfl) : TD X A e (!ds.isEmpty) := PT.wk (pt_truth h he) (by
  rintro σ H Q ⟨G, s, as, q⟩
  refine ⟨G, s, as, ?_⟩
  rintro _ v G1 H1 rfl n1 dx
  cases dx with
  | @lst p us _ h1 h2 =>
  refine ⟨!us.isEmpty, .inl ⟨us, SqL.of (n1.s _ _ h1), rfl⟩, q _ G1 H1 ?_ n1⟩
  cases h2 <;> rfl)

/-! ### argument lists, displays -/
theorem ws_nil : Ws X A [] (Eq []) := PA.wk pa_nil (by
  rintro σ H Q ⟨G, s, as, q⟩
  exact q _ _ G H rfl (Nx.refl s) True.intro)
theorem ws_consQ {es : List Expr} {L : List Sl → Prop} (h : W X A e S) (t : Ws X A es L) (hs : starEach (e :: es) X.env = (false, eval e X.env) :: starEach es X.env := by rfl) : Ws X A (e :: es) (fun l => ∃ d ds, l = d :: ds ∧ S d ∧ L ds) := PA.wk (pa_cons h t hs) (by
  rintro σ H Q ⟨G, s, as, q⟩
  refine ⟨G, s, as, fun d v G1 H1 hd n1 dv => ⟨G1, n1.s, A.m n1 as, fun ds vs G2 H2 hds n2 dvs => ?_⟩⟩
  exact q (d :: ds) (v :: vs) G2 H2 ⟨d, ds, rfl, hd, hds⟩ (n1.trans n2) ⟨dv.up n2.g, dvs⟩)
theorem Ws.imp {es : List Expr} {L L' : List Sl → Prop} (h : Ws X A es L) (k : ∀ l, L l → L' l) : Ws X A es L' := PA.wk h (by
  rintro σ H Q ⟨G, s, as, q⟩
  exact ⟨G, s, as, fun ds vs G1 H1 hd n1 dv => q ds vs G1 H1 (k _ hd) n1 dv⟩)
theorem ws_cons {es : List Expr} {d : Sl} {ds : List Sl} (h : W X A e (Eq d)) (t : Ws X A es (Eq ds)) (hs : starEach (e :: es) X.env = (false, eval e X.env) :: starEach es X.env := by rfl) : Ws X A (e :: es) (Eq (d :: ds)) :=
  (ws_consQ h t hs).imp (by rintro _ ⟨_, _, rfl, rfl, rfl⟩; rfl)
theorem w_tupQ {es : List Expr} {L : List Sl → Prop} {x1} (h : Ws X A es L) (hz : ∀ l, L l → ∃ ds : List PD, l = ds.map .da ∧ ds.length ≤ 1000) : W X A (.Tuple es x1 pos) (fun s => ∃ ds : List PD, L (ds.map .da) ∧ s = .da (.tuple ds)) := W.mk (pe_tup h) fun σ G H Q s as q => ⟨G, s, as, by
  intro l vs G1 H1 hl n1 dv
  obtain ⟨ds, rfl, hz⟩ := hz l hl
  have dd := dv.da
  refine ⟨by rw [dd.length]; exact Nat.le_of_lt (small1000 hz), fun p hp => ?_⟩
  exact q _ _ _ _ ⟨ds, hl, rfl⟩ (n1.trans (Nx.new n1.s hp)) (Dd.tup upd_same (dd.up (Ex.new (free_of n1.s hp))))⟩
theorem w_lstQ {es : List Expr} {L : List Sl → Prop} (h : Ws X A es L) (hz : ∀ l, L l → ∃ ds : List PD, l = ds.map .da ∧ ds.length ≤ 1000) : W X A (.List es pos) (fun s => ∃ ds : List PD, L (ds.map .da) ∧ s = .da (.list ds)) := W.mk (pe_lst h) fun σ G H Q s as q => ⟨G, s, as, by
  intro l vs G1 H1 hl n1 dv
  obtain ⟨ds, rfl, hz⟩ := hz l hl
  have dd := dv.da
  refine ⟨by rw [dd.length]; exact Nat.le_of_lt (small1000 hz), fun p hp => ?_⟩
  exact q _ _ _ _ ⟨ds, hl, rfl⟩ (n1.trans (Nx.new n1.s hp)) (Dd.lst upd_same (dd.up (Ex.new (free_of n1.s hp))))⟩
theorem da_inj : ∀ {ds es : List PD}, ds.map Sl.da = es.map Sl.da → ds = es
  | [], [], _ => rfl
  | d :: ds, e :: es, h => by
    rw [List.map_cons, List.map_cons] at h
    injection h with h1 h2
    injection h1 with h1
    rw [h1, da_inj h2]
  | [], _ :: _, h => by cases h
  | _ :: _, [], h => by cases h
theorem w_tup {es : List Expr} {l : List Sl} (ds : List PD) {x1} (h : Ws X A es (Eq l)) (hl : l = ds.map .da := by rfl) (hz : ds.length ≤ 1000 := by exact Nat.le_of_ble_eq_true rfl) : WD X A (.Tuple es x1 pos) (.tuple ds) :=
  (w_tupQ h (by rintro _ rfl; exact ⟨ds, hl, hz⟩)).imp (by rintro _ ⟨es, h1, rfl⟩; rw [da_inj (hl.symm.trans h1)])
theorem w_lst {es : List Expr} {l : List Sl} (ds : List PD) (h : Ws X A es (Eq l)) (hl : l = ds.map .da := by rfl) (hz : ds.length ≤ 1000 := by exact Nat.le_of_ble_eq_true rfl) : WD X A (.List es pos) (.list ds) :=
  (w_lstQ h (by rintro _ rfl; exact ⟨ds, hl, hz⟩)).imp (by rintro _ ⟨es, h1, rfl⟩; rw [da_inj (hl.symm.trans h1)])
end
end Fc
/-! FcB: calls, items, slices, comprehensions, statements. -/
namespace Fc
open PySem PySem.Spec PyProof.Rows L2
open Evl (Ex)

/-! ### calls of built-ins -/
section
variable {X : Cx} {A : As} {e a b c : Expr} {es : List Expr} {S : Sl → Prop} {L : List Sl → Prop} {p pos : Pos} {x : Str}
theorem w_blt {id : String} {r : List V → Hp → VK → Prop} (hc : CallR X (.builtin id) r) (ha : Ws X A (e :: es) L)
    (k : ∀ l vs G H, L l → SlAll G vs l → Ex G H → ∀ Q : VK, (∀ d v G' H', S d → Nx G H G' H' → SlV G' v d → Q v H') → r vs H Q)
    (hm : X.mg x = none) (hv : bootBuiltins x = some (.builtin id)) (hg : Gl X x := by rfl) (hn : x ≠ "__name__" := by decide) (hdb : (x == ("__debug__" : Str)) = false := by decide)
    (he : starEach (e :: es) X.env = (false, eval e X.env) :: starEach es X.env := by rfl) (hpl : (backTo pos (starEach es X.env)).any (·.1) = false := by rfl) : W X A (.Call (.Name x p) (e :: es) [] pos) S :=
  W.mk (pe_callB hc hg hm hv ha hn hdb he hpl) fun σ G H Q s as q => ⟨G, s, as, fun l vs G1 H1 hl n1 dv => k l vs G1 H1 hl dv n1.s Q fun d v G2 H2 hd n2 dd => q d v G2 H2 hd (n1.trans n2) dd⟩
theorem w_bltT {id : String} {r : List V → Hp → VK → Prop} (hc : CallR X (.type id) r) (ha : Ws X A (e :: es) L)
    (k : ∀ l vs G H, L l → SlAll G vs l → Ex G H → ∀ Q : VK, (∀ d v G' H', S d → Nx G H G' H' → SlV G' v d → Q v H') → r vs H Q)
    (hm : X.mg x = none) (hv : bootBuiltins x = some (.type id)) (hg : Gl X x := by rfl) (hn : x ≠ "__name__" := by decide) (hdb : (x == ("__debug__" : Str)) = false := by decide)
    (he : starEach (e :: es) X.env = (false, eval e X.env) :: starEach es X.env := by rfl) (hpl : (backTo pos (starEach es X.env)).any (·.1) = false := by rfl) : W X A (.Call (.Name x p) (e :: es) [] pos) S :=
  W.mk (pe_callTy hc hg hm hv ha hn hdb he hpl) fun σ G H Q s as q => ⟨G, s, as, fun l vs G1 H1 hl n1 dv => k l vs G1 H1 hl dv n1.s Q fun d v G2 H2 hd n2 dd => q d v G2 H2 hd (n1.trans n2) dd⟩
theorem slAll1 {G : Hp} {vs : List V} {s : Sl} (h : SlAll G vs [s]) : ∃ v, vs = [v] ∧ SlV G v s := by
  match vs, h with
  | [v], h => exact ⟨v, rfl, h.1⟩
theorem slAll2 {G : Hp} {vs : List V} {s t : Sl} (h : SlAll G vs [s, t]) : ∃ v u, vs = [v, u] ∧ SlV G v s ∧ SlV G u t := by
  match vs, h with
  | [v, u], h => exact ⟨v, u, rfl, h.1, h.2.1⟩
theorem ws_one {s : Sl} (h : W X A e (Eq s)) (hs : starEach [e] X.env = (false, eval e X.env) :: starEach [] X.env := by rfl) : Ws X A [e] (Eq [s]) := ws_cons h ws_nil hs
/-- the items of a tuple or a list -/
def seqD : PD → Option (List PD)
  | .tuple xs => some xs
  | .list xs => some xs
  | _ => none
theorem w_len {d : PD} {xs : List PD} (h : WD X A e d) (hx : seqD d = some xs) (hm : X.mg "len" = none) (hg : Gl X "len" := by rfl)
    (he : starEach [e] X.env = (false, eval e X.env) :: starEach [] X.env := by rfl) : WD X A (.Call (.Name "len" p) [e] [] pos) (.int xs.length) :=
  w_blt call_len_seq (ws_one h he) (by
    rintro _ vs G H rfl dv s Q q
    obtain ⟨v, rfl, dv'⟩ := slAll1 dv
    clear dv
    have dv := dv'
    clear dv'
    cases d with
    | tuple ys =>
      cases hx
      cases dv with
      | @tup a us _ h1 h2 => exact ⟨a, us, rfl, .inr (SqT.of (s _ _ h1)), q _ _ G H rfl (Nx.refl s) (by rw [h2.length]; exact Dd.int _)⟩
    | list ys =>
      cases hx
      cases dv with
      | @lst a us _ h1 h2 => exact ⟨a, us, rfl, .inl (SqL.of (s _ _ h1)), q _ _ G H rfl (Nx.refl s) (by rw [h2.length]; exact Dd.int _)⟩
    | _ => cases hx) hm PySem.boot_len hg (he := he)
theorem w_lenT {xs : List PD} (h : WD X A e (.tuple xs)) (hm : X.mg "len" = none) (hg : Gl X "len" := by rfl) (he : starEach [e] X.env = (false, eval e X.env) :: starEach [] X.env := by rfl) : WD X A (.Call (.Name "len" p) [e] [] pos) (.int xs.length) := w_len h rfl hm hg he
theorem w_lenL {xs : List PD} (h : WD X A e (.list xs)) (hm : X.mg "len" = none) (hg : Gl X "len" := by rfl) (he : starEach [e] X.env = (false, eval e X.env) :: starEach [] X.env := by rfl) : WD X A (.Call (.Name "len" p) [e] [] pos) (.int xs.length) := w_len h rfl hm hg he
/-! isinstance -/
def tyD : PD → String
  | .none => "NoneType"
  | .bool _ => "bool"
  | .int _ => "int"
  | .str _ => "str"
  | .list _ => "list"
  | .tuple _ => "tuple"
  | .dict _ => "dict"
theorem Dd.ty {K : PySem.W.Frag} {G : Hp} {v : V} {d : PD} (h : Dd G v d) : TyX K G v (.type (tyD d)) := by
  cases h with
  | non => exact .base .non
  | bl b => exact .base (.bl b)
  | int i => exact .base (.int i)
  | str x => exact .base (.str x)
  | lst h1 _ => exact .base (.lst h1)
  | tup h1 _ => exact .base (.tup h1)
theorem w_ty {T : String} (hm : X.mg x = none) (hv : bootBuiltins x = some (.type T)) (hg : Gl X x := by rfl) (hn : x ≠ "__name__" := by decide) (hd : (x == ("__debug__" : Str)) = false := by decide) : W X A (.Name x pos) (Eq (.at (.ty T))) :=
  W.mk (pe_bltn (v := .ty T) hg hm hv rfl hn hd) fun σ G H Q s as q => q _ _ G H rfl (Nx.refl s) rfl
theorem w_isi {d : PD} {T : String} {k : Bool} (h : WD X A a d) (ht : W X A b (Eq (.at (.ty T)))) (hk : kitB (tyD d) T = some k) (hm : X.mg "isinstance" = none) (hg : Gl X "isinstance" := by rfl)
    (h1 : starEach [a, b] X.env = (false, eval a X.env) :: starEach [b] X.env := by rfl) (h2 : starEach [b] X.env = (false, eval b X.env) :: starEach [] X.env := by rfl) (hpl : (backTo pos (starEach [b] X.env)).any (·.1) = false := by rfl) :
    WD X A (.Call (.Name "isinstance" p) [a, b] [] pos) (.bool k) := w_blt call_isi (ws_cons h (ws_one ht h2) h1) (by
  rintro _ vs G H rfl dv s Q q
  obtain ⟨v, u, rfl, dv', du⟩ := slAll2 dv
  cases du
  exact ⟨v, _, _, _, k, rfl, .ty T, Dd.ty (Dd.up dv' s), kit_ty hk, q _ _ G H rfl (Nx.refl s) (Dd.bl k)⟩) hm PyProof.Rows.boot_isinstance hg (he := h1) (hpl := hpl)
theorem kit_tuple (d : PD) : kitB (tyD d) "tuple" = some (match d with | .tuple _ => true | _ => false) := by cases d <;> (simp only [tyD]; decide +kernel)
theorem kit_list (d : PD) : kitB (tyD d) "list" = some (match d with | .list _ => true | _ => false) := by cases d <;> (simp only [tyD]; decide +kernel)
theorem kit_bool (d : PD) : kitB (tyD d) "bool" = some (match d with | .bool _ => true | _ => false) := by cases d <;> (simp only [tyD]; decide +kernel)
theorem kit_int (d : PD) : kitB (tyD d) "int" = some (match d with | .bool _ => true | .int _ => true | _ => false) := by cases d <;> (simp only [tyD]; decide +kernel)
theorem kit_str (d : PD) : kitB (tyD d) "str" = some (match d with | .str _ => true | _ => false) := by cases d <;> (simp only [tyD]; decide +kernel)

/-! all, any, sum, tuple, list, sorted -/
theorem w_all {bs : List Bool} (hc : X.calm = true) (h : WD X A e (.list (bs.map .bool))) (hm : X.mg "all" = none) (hg : Gl X "all" := by rfl) (he : starEach [e] X.env = (false, eval e X.env) :: starEach [] X.env := by rfl) : WD X A (.Call (.Name "all" p) [e] [] pos) (.bool (bs.all id)) :=
  w_blt (cr_all hc) (ws_one h he) (by
    rintro _ vs G H rfl dv s Q q
    obtain ⟨v, rfl, dv'⟩ := slAll1 dv
    clear dv
    have dv := dv'
    clear dv'
    cases dv with
    | @lst a us _ h1 h2 =>
      have e := h2.bls
      subst e
      exact ⟨a, bs, rfl, SqL.of (s _ _ h1), q _ _ G H rfl (Nx.refl s) (Dd.bl _)⟩) hm (by decide +kernel) hg (he := he)
theorem w_any {bs : List Bool} (hc : X.calm = true) (h : WD X A e (.list (bs.map .bool))) (hm : X.mg "any" = none) (hg : Gl X "any" := by rfl) (he : starEach [e] X.env = (false, eval e X.env) :: starEach [] X.env := by rfl) : WD X A (.Call (.Name "any" p) [e] [] pos) (.bool (bs.any id)) :=
  w_blt (cr_any hc) (ws_one h he) (by
    rintro _ vs G H rfl dv s Q q
    obtain ⟨v, rfl, dv'⟩ := slAll1 dv
    clear dv
    have dv := dv'
    clear dv'
    cases dv with
    | @lst a us _ h1 h2 =>
      have e := h2.bls
      subst e
      exact ⟨a, bs, rfl, SqL.of (s _ _ h1), q _ _ G H rfl (Nx.refl s) (Dd.bl _)⟩) hm (by decide +kernel) hg (he := he)
theorem w_sum {ns : List Int} (hc : X.calm = true) (h : WD X A e (.list (ns.map .int))) (hm : X.mg "sum" = none) (hg : Gl X "sum" := by rfl) (he : starEach [e] X.env = (false, eval e X.env) :: starEach [] X.env := by rfl) : WD X A (.Call (.Name "sum" p) [e] [] pos) (.int ns.sum) :=
  w_blt (cr_sum hc) (ws_one h he) (by
    rintro _ vs G H rfl dv s Q q
    obtain ⟨v, rfl, dv'⟩ := slAll1 dv
    clear dv
    have dv := dv'
    clear dv'
    cases dv with
    | @lst a us _ h1 h2 =>
      have e := h2.ints
      subst e
      exact ⟨a, ns, rfl, SqL.of (s _ _ h1), q _ _ G H rfl (Nx.refl s) (Dd.int _)⟩) hm (by decide +kernel) hg (he := he)
theorem w_tupleQ {S : Sl → Prop} (h : W X A e S) (hS : ∀ s, S s → ∃ ds, s = .da (.list ds)) (hm : X.mg "tuple" = none) (hg : Gl X "tuple" := by rfl) (he : starEach [e] X.env = (false, eval e X.env) :: starEach [] X.env := by rfl) :
    W X A (.Call (.Name "tuple" p) [e] [] pos) (fun s => ∃ ds, S (.da (.list ds)) ∧ s = .da (.tuple ds)) :=
  w_bltT call_tuple_of (ws_consQ h ws_nil he) (by
    rintro _ vs G H ⟨t, _, rfl, hs, rfl⟩ dv s Q q
    obtain ⟨v, rfl, dv'⟩ := slAll1 dv
    clear dv
    have dv := dv'
    clear dv'
    obtain ⟨ds, rfl⟩ := hS t hs
    cases dv with
    | @lst a us _ h1 h2 =>
      exact ⟨a, us, rfl, .inl ⟨SqL.of (s _ _ h1), fun l hl => q _ _ _ _ ⟨ds, hs, rfl⟩ (Nx.new s hl) (Dd.tup upd_same (h2.up (Ex.new (free_of s hl))))⟩⟩) hm (by decide +kernel) hg (he := he)
theorem w_tupleL {ds : List PD} (h : WD X A e (.list ds)) (hm : X.mg "tuple" = none) (hg : Gl X "tuple" := by rfl) (he : starEach [e] X.env = (false, eval e X.env) :: starEach [] X.env := by rfl) :
    WD X A (.Call (.Name "tuple" p) [e] [] pos) (.tuple ds) := (w_tupleQ h (by rintro _ rfl; exact ⟨ds, rfl⟩) hm hg he).imp (by rintro _ ⟨es, h1, rfl⟩; injection h1 with h1; injection h1 with h1; rw [h1])
theorem w_listOf {d : PD} {xs : List PD} (h : WD X A e d) (hx : seqD d = some xs) (hm : X.mg "list" = none) (hg : Gl X "list" := by rfl) (he : starEach [e] X.env = (false, eval e X.env) :: starEach [] X.env := by rfl) : WD X A (.Call (.Name "list" p) [e] [] pos) (.list xs) :=
  w_bltT call_list_of (ws_one h he) (by
    rintro _ vs G H rfl dv s Q q
    obtain ⟨v, rfl, dv'⟩ := slAll1 dv
    clear dv
    have dv := dv'
    clear dv'
    cases d with
    | tuple ys =>
      cases hx
      cases dv with
      | @tup a us _ h1 h2 => exact ⟨a, us, rfl, .inr (SqT.of (s _ _ h1)), fun l hl => q _ _ _ _ rfl (Nx.new s hl) (Dd.lst upd_same (h2.up (Ex.new (free_of s hl))))⟩
    | list ys =>
      cases hx
      cases dv with
      | @lst a us _ h1 h2 => exact ⟨a, us, rfl, .inl (SqL.of (s _ _ h1)), fun l hl => q _ _ _ _ rfl (Nx.new s hl) (Dd.lst upd_same (h2.up (Ex.new (free_of s hl))))⟩
    | _ => cases hx) hm (by decide +kernel) hg (he := he)
/-- sorted of a list of ints -/
theorem w_sortedQ {S : Sl → Prop} (h : W X A e S) (hS : ∀ s, S s → ∃ ns : List Int, s = .da (.list (ns.map .int)) ∧ ns.length ≤ 100000) (hm : X.mg "sorted" = none) (hg : Gl X "sorted" := by rfl) (he : starEach [e] X.env = (false, eval e X.env) :: starEach [] X.env := by rfl) :
    W X A (.Call (.Name "sorted" p) [e] [] pos) (fun s => ∃ ns ns' : List Int, S (.da (.list (ns.map .int))) ∧ s = .da (.list (ns'.map .int)) ∧ ns'.Perm ns ∧ ns'.Pairwise (· ≤ ·)) :=
  w_blt cr_sortedI (ws_consQ h ws_nil he) (by
    rintro _ vs G H ⟨t, _, rfl, hs, rfl⟩ dv s Q q
    obtain ⟨v, rfl, dv'⟩ := slAll1 dv
    clear dv
    have dv := dv'
    clear dv'
    obtain ⟨ns, rfl, _⟩ := hS t hs
    cases dv with
    | @lst a us _ h1 h2 =>
      have e := h2.ints
      subst e
      exact ⟨a, ns, rfl, SqL.of (s _ _ h1), fun ns' l hp hw hl => q _ _ _ _ ⟨ns, ns', hs, rfl, hp, hw⟩ (Nx.new s hl) (Dd.lst upd_same (DdAll.ofInts ns'))⟩) hm (by decide +kernel) hg (he := he)

/-! ### items -/
theorem atI_lt {α : Type} {xs : List α} {i : Int} {v : α} (h : atI xs i = some v) : ∃ j, ixN xs.length i = some j ∧ xs[j]? = some v := by
  unfold atI at h
  cases q : ixN xs.length i with
  | none => rw [q] at h; cases h
  | some j => rw [q] at h; exact ⟨j, rfl, h⟩
theorem atI_dd {G : Hp} {us : List V} {ds : List PD} {i : Int} {d : PD} (h : DdAll G us ds) (e : atI ds i = some d) : ∃ v, atI us i = some v ∧ Dd G v d := by
  obtain ⟨j, h1, h2⟩ := atI_lt e
  obtain ⟨v, h3, h4⟩ := h.get h2
  refine ⟨v, ?_, h4⟩
  unfold atI
  rw [h.length, h1]
  exact h3
theorem w_ixQ {d : PD} {xs : List PD} {P : Int → Prop} {S : Sl → Prop} (h : WD X A a d) (hx : seqD d = some xs) (hi : W X A b (IntS P)) (k : ∀ i, P i → ∃ e, atI xs i = some e ∧ S (.da e)) (hs : PlainIx b := by exact fun _ _ => rfl) : W X A (.Subscript a b pos) S :=
  W.mk (pe_ix ix_seq h hi hs) fun σ G H Q s as q => ⟨G, s, as, by
    rintro _ x G1 H1 rfl n1 dx
    refine ⟨G1, n1.s, A.m n1 as, ?_⟩
    rintro _ y G2 H2 ⟨i, rfl, hi⟩ n2 dy
    obtain ⟨e, he, hS⟩ := k i hi
    cases dy
    have dx2 := Dd.up dx n2.g
    cases d with
    | tuple ys =>
      cases hx
      cases dx2 with
      | @tup p us _ h1 h2 =>
        obtain ⟨v, hv, dv⟩ := atI_dd h2 he
        exact .inr (.inl ⟨p, us, i, v, rfl, rfl, SqT.of (n2.s _ _ h1), hv, q _ _ G2 H2 hS (n1.trans n2) dv⟩)
    | list ys =>
      cases hx
      cases dx2 with
      | @lst p us _ h1 h2 =>
        obtain ⟨v, hv, dv⟩ := atI_dd h2 he
        exact .inl ⟨p, us, i, v, rfl, rfl, SqL.of (n2.s _ _ h1), hv, q _ _ G2 H2 hS (n1.trans n2) dv⟩
    | _ => cases hx⟩
theorem w_ix {d f : PD} {xs : List PD} {i : Int} (h : WD X A a d) (hi : WD X A b (.int i)) (hx : seqD d = some xs := by rfl) (hf : atI xs i = some f := by rfl) (hs : PlainIx b := by exact fun _ _ => rfl) : WD X A (.Subscript a b pos) f :=
  w_ixQ (P := Eq i) h hx (hi.imp fun _ z => intS_of z) (by rintro _ rfl; exact ⟨f, hf, rfl⟩) hs
/-! slices -/
def WO (X : Cx) (A : As) (e : Option Expr) (o : Option Int) : Prop := PO X e (fun σ H Q => ∃ G, Ex G H ∧ A.p σ G H ∧ ∀ G' H', Nx G H G' H' → Q o H')
theorem PO.wk {e : Option Expr} {t t' : TO} (h : PO X e t) (k : ∀ σ H Q, t' σ H Q → t σ H Q) : PO X e t' := ⟨fun pins s σ H Q I q => h.run pins s σ H Q I (k _ _ _ q)⟩
theorem wo_none : WO X A none none := PO.wk po_none (by rintro σ H Q ⟨G, s, as, q⟩; exact q G H (Nx.refl s))
theorem wo_some {i : Int} (h : WD X A e (.int i)) : WO X A (some e) (some i) := PO.wk (po_some h) (by
  rintro σ H Q ⟨G, s, as, q⟩
  refine ⟨G, s, as, ?_⟩
  rintro _ v G1 H1 rfl n1 dv
  cases dv
  exact ⟨i, rfl, q G1 H1 n1⟩)
def cutD (xs : List PD) (lo hi : Option Int) : List PD := (xs.drop (HT.sIx xs.length 0 lo)).take (HT.sIx xs.length xs.length hi - HT.sIx xs.length 0 lo)
theorem DdAll.cut {G : Hp} {us : List V} {ds : List PD} (h : DdAll G us ds) (lo hi : Option Int) : DdAll G (cutV us lo hi) (cutD ds lo hi) := by
  unfold cutV cutD
  rw [h.length]
  exact (h.drop _).take _
theorem cutD_whole {xs : List PD} {lo hi : Option Int} (h : HT.sIx xs.length 0 lo = 0 ∧ HT.sIx xs.length xs.length hi = xs.length) : cutD xs lo hi = xs := by
  unfold cutD
  rw [h.1, h.2]
  simp
theorem w_slT {xs : List PD} {lo hi : Option Expr} {l u : Option Int} {p2 : Pos} (h : WD X A a (.tuple xs)) (hl : WO X A lo l) (hu : WO X A hi u) : WD X A (.Subscript a (.Slice lo hi none p2) pos) (.tuple (cutD xs l u)) :=
  W.mk (pe_slice sl_tupA h hl hu) fun σ G H Q s as q => ⟨G, s, as, by
    rintro _ x G1 H1 rfl n1 dx
    refine ⟨G1, n1.s, A.m n1 as, fun G2 H2 n2 => ⟨G2, n2.s, A.m (n1.trans n2) as, fun G3 H3 n3 => ?_⟩⟩
    have dx3 := Dd.up dx (n2.g.trans n3.g)
    cases dx3 with
    | @tup p us _ h1 h2 =>
      have n := (n1.trans n2).trans n3
      refine ⟨p, us, rfl, SqT.of (n3.s _ _ h1), fun hw => ?_, fun hw p' hp => ?_⟩
      · rw [h2.length] at hw
        exact q _ _ G3 H3 rfl n (by rw [cutD_whole hw]; exact Dd.tup h1 h2)
      · exact q _ _ _ _ rfl (n.trans (Nx.new n3.s hp)) (Dd.tup upd_same ((h2.cut l u).up (Ex.new (free_of n3.s hp))))⟩
theorem w_slL {xs : List PD} {lo hi : Option Expr} {l u : Option Int} {p2 : Pos} (h : WD X A a (.list xs)) (hl : WO X A lo l) (hu : WO X A hi u) : WD X A (.Subscript a (.Slice lo hi none p2) pos) (.list (cutD xs l u)) :=
  W.mk (pe_slice sl_list h hl hu) fun σ G H Q s as q => ⟨G, s, as, by
    rintro _ x G1 H1 rfl n1 dx
    refine ⟨G1, n1.s, A.m n1 as, fun G2 H2 n2 => ⟨G2, n2.s, A.m (n1.trans n2) as, fun G3 H3 n3 => ?_⟩⟩
    have dx3 := Dd.up dx (n2.g.trans n3.g)
    cases dx3 with
    | @lst p us _ h1 h2 =>
      have n := (n1.trans n2).trans n3
      exact ⟨p, us, rfl, SqL.of (n3.s _ _ h1), fun p' hp => q _ _ _ _ rfl (n.trans (Nx.new n3.s hp)) (Dd.lst upd_same ((h2.cut l u).up (Ex.new (free_of n3.s hp))))⟩⟩
end

/-! ### own defs -/
/-- the promise by data: the arguments' slots, what it may hand back -/
def spF (F : List Sl → (Sl → Prop) → Prop) : Sp := fun vs H Q _ => ∃ G ss S, F ss S ∧ Ex G H ∧ SlAll G vs ss ∧ ∀ d v G' H', S d → Nx G H G' H' → SlV G' v d → Q v H'
/-- a def that may raise BadValue: what it hands back, or the error's name -/
def spX (C : Addr) (F : List Sl → Except Str (Sl → Prop) → Prop) : Sp := fun vs H Q E => ∃ G ss o, F ss o ∧ Ex G H ∧ SlAll G vs ss ∧ match o with
  | .ok S => ∀ d v G' H', S d → Nx G H G' H' → SlV G' v d → Q v H'
  | .error nm => ∀ (d : Addr) G' H', Nx G H G' H' → H' d = some (.xd [(("name" : Str), V.str nm)]) → E (.ref C) (some d) H'
def Def (P : Program) (w : World) (K : PySem.W.Frag) (mg : Str → Option Value) (base : Heap) (CX : CXT) (k : Nat) (x : Str) (ps : List Str) (sp : Sp) : Prop :=
  ∃ f fd, FnOk P w K mg base CX k f fd ps sp ∧ mg x = some (.ref f) ∧ PySem.W.keepIn K (.ref f) = true ∧ Binds K fd ps []
section
variable {P : Program} {w : World} {K : PySem.W.Frag} {mg : Str → Option Value} {base : Heap} {CX : CXT} {k j : Nat} {x : Str} {ps : List Str} {C : Addr}
theorem Def.ok {F : List Sl → Except Str (Sl → Prop) → Prop} (D : Def P w K mg base CX k x ps (spX C F)) : Def P w K mg base CX k x ps (spF fun ss S => F ss (.ok S)) := by
  obtain ⟨f, fd, h1, h2⟩ := D
  refine ⟨f, fd, h1.imp ?_, h2⟩
  rintro vs H Q E ⟨G, ss, S, h3, h4, h5, h6⟩
  exact ⟨G, ss, .ok S, h3, h4, h5, h6⟩
theorem Def.imp {F F' : List Sl → (Sl → Prop) → Prop} (D : Def P w K mg base CX k x ps (spF F)) (h : ∀ ss S, F' ss S → F ss S) : Def P w K mg base CX k x ps (spF F') := by
  obtain ⟨f, fd, h1, h2⟩ := D
  refine ⟨f, fd, h1.imp ?_, h2⟩
  rintro vs H Q E ⟨G, ss, S, h3, h4⟩
  exact ⟨G, ss, S, h _ _ h3, h4⟩
theorem Def.mono {sp : Sp} (D : Def P w K mg base CX j x ps sp) (h : j ≤ k) : Def P w K mg base CX k x ps sp := by
  obtain ⟨f, fd, h1, h2⟩ := D
  exact ⟨f, fd, h1.mono h, h2⟩
end
section
variable {X : Cx} {A : As} {e : Expr} {es : List Expr} {S : Sl → Prop} {L : List Sl → Prop} {p pos : Pos} {x : Str} {k : Nat} {ps : List Str} {F : List Sl → (Sl → Prop) → Prop}
theorem w_callG {CX : CXT} (D : Def X.prog X.w X.K X.mg X.base CX k x ps (spF F)) (hr : Room k X.A) (hx : Passes CX X E0) (ha : Ws X A (e :: es) L) (hF : ∀ l, L l → F l S) (hg : Gl X x := by rfl)
    (hdb : (x == ("__debug__" : Str)) = false := by decide) (he : starEach (e :: es) X.env = (false, eval e X.env) :: starEach es X.env := by rfl) (hpl : (backTo pos (starEach es X.env)).any (·.1) = false := by rfl) : W X A (.Call (.Name x p) (e :: es) [] pos) S := by
  obtain ⟨f, fd, h1, h2, h3, h4⟩ := D
  refine W.mk (pe_call h1 hr hg h2 h3 h4 .nil hx ha hdb he hpl) fun σ G H Q s as q => ⟨G, s, as, fun l vs G1 H1 hl n1 dv => ?_⟩
  show spF F (vs ++ []) H1 Q E0
  rw [List.append_nil]
  exact ⟨G1, l, S, hF l hl, n1.s, dv, fun d v G2 H2 hd n2 dd => q d v G2 H2 hd (n1.trans n2) dd⟩
theorem w_call (D : Def X.prog X.w X.K X.mg X.base CX0 k x ps (spF F)) (hr : Room k X.A) {l : List Sl} (ha : Ws X A (e :: es) (Eq l)) (hF : F l S) (hg : Gl X x := by rfl)
    (hdb : (x == ("__debug__" : Str)) = false := by decide) (he : starEach (e :: es) X.env = (false, eval e X.env) :: starEach es X.env := by rfl) (hpl : (backTo pos (starEach es X.env)).any (·.1) = false := by rfl) : W X A (.Call (.Name x p) (e :: es) [] pos) S :=
  w_callG D hr pass0 ha (by rintro _ rfl; exact hF) hg hdb he hpl
end
end Fc
/-! FcC: what is walked, comprehensions, statements. -/
namespace Fc
open PySem PySem.Spec PyProof.Rows L2
open Evl (Ex)

/-! ### what is walked -/
/-- while G1 stands: the turns give the items -/
def IterOk (J : It) (G1 : Hp) (items : List PD) : Prop :=
  L2.Walk J items.length (fun H => ∃ G, Ex G1 G ∧ Ex G H) (fun i H x H' => ∀ G, Ex G1 G → Ex G H → ∃ G' d, Nx G H G' H' ∧ items[i]? = some d ∧ Dd G' x d)
def tI (A : As) (L : List PD → Prop) : TI := fun σ H R => ∃ G, Ex G H ∧ A.p σ G H ∧ ∀ items J G1 H1, L items → Nx G H G1 H1 → IterOk J G1 items → R J H1
def Wi (X : Cx) (A : As) (tg it : Expr) (L : List PD → Prop) : Prop := PI X tg it (tI A L)
section
variable {X : Cx} {A : As} {e a b tg : Expr} {p pos : Pos}
theorem Wi.imp {L L' : List PD → Prop} (h : Wi X A tg e L) (k : ∀ l, L l → L' l) : Wi X A tg e L' := PI.wk h fun σ H R ⟨G, s, as, q⟩ => ⟨G, s, as, fun items J G1 H1 hl => q items J G1 H1 (k _ hl)⟩
theorem wi_tup {ds : List PD} (h : WD X A e (.tuple ds)) : Wi X A tg e (Eq ds) := PI.wk (pi_tup h) (by
  rintro σ H R ⟨G, s, as, q⟩
  refine ⟨G, s, as, ?_⟩
  rintro _ v G1 H1 rfl n1 dv
  cases dv with
  | @tup p us _ h1 h2 =>
    refine ⟨p, rfl, ⟨us, SqT.of (n1.s _ _ h1)⟩, q ds _ G1 H1 rfl n1 ⟨?_, ?_, ?_⟩⟩
    · rintro i H' hi ⟨G', n, n'⟩
      obtain ⟨x, hx, _⟩ := h2.get (List.getElem?_eq_getElem hi)
      exact ⟨us, x, SqT.of (n' _ _ (n _ _ h1)), hx⟩
    · rintro H' ⟨G', n, n'⟩
      exact ⟨us, SqT.of (n' _ _ (n _ _ h1)), by rw [h2.length]; exact Nat.le_refl _⟩
    · rintro i H' x H'' hi ⟨G0, n0⟩ ⟨rfl, hy⟩ G' n n'
      have hx := hy us (SqT.of (n' _ _ (n _ _ h1)))
      obtain ⟨d, hd, dd⟩ := h2.getV hx
      exact ⟨G', d, Nx.refl n', hd, dd.up n⟩)
theorem wi_lst {ds : List PD} (h : WD X A e (.list ds)) : Wi X A tg e (Eq ds) := PI.wk (pi_list h) (by
  rintro σ H R ⟨G, s, as, q⟩
  refine ⟨G, s, as, ?_⟩
  rintro _ v G1 H1 rfl n1 dv
  cases dv with
  | @lst p us _ h1 h2 =>
    refine ⟨p, rfl, ⟨us, SqL.of (n1.s _ _ h1)⟩, q ds _ G1 H1 rfl n1 ⟨?_, ?_, ?_⟩⟩
    · rintro i H' hi ⟨G', n, n'⟩
      obtain ⟨x, hx, _⟩ := h2.get (List.getElem?_eq_getElem hi)
      exact ⟨us, x, SqL.of (n' _ _ (n _ _ h1)), hx⟩
    · rintro H' ⟨G', n, n'⟩
      exact ⟨us, SqL.of (n' _ _ (n _ _ h1)), by rw [h2.length]; exact Nat.le_refl _⟩
    · rintro i H' x H'' hi ⟨G0, n0⟩ ⟨rfl, hy⟩ G' n n'
      have hx := hy us (SqL.of (n' _ _ (n _ _ h1)))
      obtain ⟨d, hd, dd⟩ := h2.getV hx
      exact ⟨G', d, Nx.refl n', hd, dd.up n⟩)
def rangeD (n : Nat) : List PD := (List.range n).map fun (i : Nat) => PyData.int (i : Int)
theorem rangeD_length (n : Nat) : (rangeD n).length = n := by unfold rangeD; rw [List.length_map, List.length_range]
theorem rangeD_get {n i : Nat} (h : i < n) : (rangeD n)[i]? = some (.int (i : Int)) := by
  unfold rangeD
  rw [List.getElem?_map, List.getElem?_range h]
  rfl
theorem wi_rangeQ {P : Int → Prop} (h : W X A e (IntS P)) (hP : ∀ i, P i → -100000 ≤ i ∧ i ≤ 100000) (hm : X.mg "range" = none) (hg : Gl X "range" := by rfl) (hs : starEach [e] X.env = [(false, eval e X.env)] := by rfl) :
    Wi X A tg (.Call (.Name "range" p) [e] [] pos) (fun l => ∃ i, P i ∧ l = rangeD i.toNat) := PI.wk (pi_range1 hg hm (ws_consQ h ws_nil hs) hs) (by
  rintro σ H R ⟨G, s, as, q⟩
  refine ⟨G, s, as, ?_⟩
  rintro l vs G1 H1 ⟨_, _, rfl, ⟨i, rfl, hi⟩, rfl⟩ n1 dv
  obtain ⟨v, rfl, dv'⟩ := slAll1 dv
  cases dv'
  obtain ⟨h0, h1⟩ := hP i hi
  refine ⟨i, rfl, by omega, by omega, q _ _ G1 H1 ⟨i, hi, rfl⟩ n1 ⟨?_, ?_, ?_⟩⟩
  · rintro j H' hj _
    rw [rangeD_length] at hj
    exact hj
  · rintro H' _
    rw [rangeD_length]
    exact Nat.le_refl i.toNat
  · rintro j H' x H'' hj _ ⟨rfl, rfl⟩ G' n n'
    rw [rangeD_length] at hj
    refine ⟨G', .int (j : Int), Nx.refl n', rangeD_get hj, ?_⟩
    rw [Int.zero_add]
    exact Dd.int _)
theorem wi_range {n : Nat} (h : WD X A e (.int (n : Int))) (hn : n ≤ 100000) (hm : X.mg "range" = none) (hg : Gl X "range" := by rfl) (hs : starEach [e] X.env = [(false, eval e X.env)] := by rfl) :
    Wi X A tg (.Call (.Name "range" p) [e] [] pos) (Eq (rangeD n)) :=
  (wi_rangeQ (P := Eq (n : Int)) (h.imp fun _ z => intS_of z) (by rintro _ rfl; omega) hm hg hs).imp (by rintro _ ⟨_, rfl, rfl⟩; rfl)
end

/-! ### targets -/
/-- from A the target takes a value of d and A' holds; the slots at vs alone change -/
def GT (g : TG) (vs : List Nat) (A : As) (d : PD) (A' : As) : Prop :=
  ∀ σ G H v, Ex G H → A.p σ G H → Dd G v d → ∀ Q : L2.St → Hp → Prop, (∀ σ' G' H', wipe σ' vs = wipe σ vs → Nx G H G' H' → A'.p σ' G' H' → Q σ' H') → g v σ H Q
theorem gt_name {G0 H0 : Hp} {ρ : List Sl} {M : Mx} {d : PD} (j : Nat) : GT (gName j) [j] (aT G0 H0 ρ M) d (aT G0 H0 (ρ.set j (.da d)) M) := by
  intro σ G H v s as dv Q q
  refine q _ G H ?_ (Nx.refl s) ⟨as.1, Rel.set (s := .da d) dv j as.2.1, as.2.2⟩
  show (σ.set j (some v)).set j none = σ.set j none
  rw [List.set_set]
theorem gt_two {K : PySem.W.Frag} {G0 H0 : Hp} {ρ : List Sl} {M : Mx} {d1 d2 : PD} (i j : Nat) (h : i ≠ j) : GT (gTup K 2 (gCons (gName i) (gCons (gName j) gNil))) [i, j] (aT G0 H0 ρ M) (.tuple [d1, d2]) (aT G0 H0 ((ρ.set i (.da d1)).set j (.da d2)) M) := by
  intro σ G H v s as dv Q q
  cases dv with
  | @tup p us _ h1 h2 =>
    cases h2 with
    | cons x1 r1 =>
      cases r1 with
      | cons x2 r2 =>
        cases r2
        refine ⟨p, _, rfl, SqT.of (s _ _ h1), rfl, _, _, rfl, _, _, rfl, rfl, ?_⟩
        refine q _ G H ?_ (Nx.refl s) ⟨as.1, Rel.set (s := .da d2) x2 j (Rel.set (s := .da d1) x1 i as.2.1), as.2.2⟩
        show ((((σ.set i _).set j _).set j none).set i none) = (σ.set j none).set i none
        rw [List.set_set, List.set_comm _ _ h, List.set_set]
theorem gt_three {K : PySem.W.Frag} {G0 H0 : Hp} {ρ : List Sl} {M : Mx} {d1 d2 d3 : PD} (i j k : Nat) (h : i ≠ j) (h2 : i ≠ k) (h3 : j ≠ k) :
    GT (gTup K 3 (gCons (gName i) (gCons (gName j) (gCons (gName k) gNil)))) [i, j, k] (aT G0 H0 ρ M) (.tuple [d1, d2, d3]) (aT G0 H0 (((ρ.set i (.da d1)).set j (.da d2)).set k (.da d3)) M) := by
  intro σ G H v s as dv Q q
  cases dv with
  | @tup p us _ h1 h2' =>
    cases h2' with
    | cons x1 r1 =>
      cases r1 with
      | cons x2 r2 =>
        cases r2 with
        | cons x3 r3 =>
          cases r3
          refine ⟨p, _, rfl, SqT.of (s _ _ h1), rfl, _, _, rfl, _, _, rfl, _, _, rfl, rfl, ?_⟩
          refine q _ G H ?_ (Nx.refl s) ⟨as.1, Rel.set (s := .da d3) x3 k (Rel.set (s := .da d2) x2 j (Rel.set (s := .da d1) x1 i as.2.1)), as.2.2⟩
          show (((((σ.set i _).set j _).set k _).set k none).set j none).set i none = ((σ.set k none).set j none).set i none
          rw [List.set_set, List.set_comm _ _ h3, List.set_set, List.set_comm _ _ h2, List.set_comm _ _ h, List.set_set]

/-! ### comprehensions -/
theorem wipe_get {σ : L2.St} {i : Nat} : ∀ vs : List Nat, (wipe σ vs)[i]? = if i ∈ vs then σ[i]?.map (fun _ => none) else σ[i]?
  | [] => by simp [wipe]
  | v :: vs => by
    have ih := wipe_get (σ := σ) (i := i) vs
    unfold wipe
    by_cases h : v = i
    · subst h
      rw [if_pos List.mem_cons_self]
      by_cases hl : v < (wipe σ vs).length
      · rw [List.getElem?_set_self hl]
        rw [wipe_length] at hl
        rw [List.getElem?_eq_getElem hl]
        rfl
      · rw [List.getElem?_eq_none (by rw [List.length_set]; omega)]
        rw [wipe_length] at hl
        rw [List.getElem?_eq_none (by omega)]
        rfl
    · rw [List.getElem?_set_ne h, ih]
      have e : (i ∈ v :: vs) ↔ i ∈ vs := by
        rw [List.mem_cons]
        exact ⟨fun z => z.resolve_left fun q => h q.symm, .inr⟩
      by_cases hm : i ∈ vs
      · rw [if_pos hm, if_pos (e.mpr hm)]
      · rw [if_neg hm, if_neg (fun z => hm (e.mp z))]
theorem wipe_wipe (σ : L2.St) (vs : List Nat) : wipe (wipe σ vs) vs = wipe σ vs := by
  apply List.ext_getElem?
  intro i
  rw [wipe_get, wipe_get]
  by_cases h : i ∈ vs
  · rw [if_pos h, if_pos h]
    cases σ[i]? <;> rfl
  · rw [if_neg h, if_neg h]
/-- which items are taken and what becomes of them -/
inductive Coll (B : PD → Bool → Prop) (S : PD → Sl → Prop) : List PD → List PD → Prop
  | nil : Coll B S [] []
  | skip {d : PD} {l r : List PD} : B d false → Coll B S l r → Coll B S (d :: l) r
  | take {d e : PD} {l r : List PD} : B d true → S d (.da e) → Coll B S l r → Coll B S (d :: l) (e :: r)
theorem Coll.append {B : PD → Bool → Prop} {S : PD → Sl → Prop} : ∀ {l r l' r' : List PD}, Coll B S l r → Coll B S l' r' → Coll B S (l ++ l') (r ++ r')
  | _, _, _, _, .nil, h => h
  | _, _, _, _, .skip hb t, h => .skip hb (Coll.append t h)
  | _, _, _, _, .take hb hs t, h => .take hb hs (Coll.append t h)
theorem Coll.le {B : PD → Bool → Prop} {S : PD → Sl → Prop} : ∀ {l r : List PD}, Coll B S l r → r.length ≤ l.length
  | _, _, .nil => Nat.le_refl _
  | _, _, .skip _ t => Nat.le_succ_of_le (Coll.le t)
  | _, _, .take _ _ t => Nat.succ_le_succ (Coll.le t)
theorem Coll.det {f : PD → Bool} {g : PD → PD} : ∀ {l r : List PD}, Coll (fun d => Eq (f d)) (fun d => Eq (.da (g d))) l r → r = (l.filter f).map g
  | _, _, .nil => rfl
  | _, _, .skip (d := d) hb t => by
    rw [List.filter_cons_of_neg (by rw [hb]; decide)]
    exact Coll.det t
  | _, _, .take (d := d) hb hs t => by
    rw [List.filter_cons_of_pos hb, List.map_cons]
    injection hs with hs
    rw [Coll.det t, hs]
/-- .. of typed items -/
theorem Coll.detT {α : Type} {enc : α → PD} {f : α → Bool} {g : α → PD} {B : PD → Bool → Prop} {S : PD → Sl → Prop} : ∀ {l : List α} {r : List PD}, (∀ a ∈ l, ∀ b, B (enc a) b → b = f a) → (∀ a ∈ l, f a = true → ∀ e, S (enc a) (.da e) → e = g a) →
    Coll B S (l.map enc) r → r = (l.filter f).map g
  | [], r, _, _, h => by
    cases h
    rfl
  | a :: l, r, hB, hS, h => by
    have hB' : ∀ a ∈ l, ∀ b, B (enc a) b → b = f a := fun a m => hB a (List.mem_cons_of_mem _ m)
    have hS' : ∀ a ∈ l, f a = true → ∀ e, S (enc a) (.da e) → e = g a := fun a m => hS a (List.mem_cons_of_mem _ m)
    cases h with
    | skip hb t =>
      have e := hB a List.mem_cons_self _ hb
      rw [List.filter_cons_of_neg (by rw [← e]; decide)]
      exact Coll.detT hB' hS' t
    | take hb hs t =>
      have e := hB a List.mem_cons_self _ hb
      rw [List.filter_cons_of_pos e.symm, List.map_cons, ← hS a List.mem_cons_self e.symm _ hs, ← Coll.detT hB' hS' t]
section
variable {X : Cx} {A : As} {elt tg it : Expr} {ifs : List Expr} {scope : Scope} {own : List (Str × Nat)} {pos : Pos} {L : List PD → Prop} {g : TG} {B : PD → Bool → Prop} {S : PD → Sl → Prop}
def tLcT (A' : PD → As) (L : List PD → Prop) (B : PD → Bool → Prop) : TT := fun σ H Q => ∃ d : { d // ∃ l, L l ∧ d ∈ l }, tTt (A' d.1) (B d.1) σ H Q
def tLcE (A' : PD → As) (L : List PD → Prop) (B : PD → Bool → Prop) (S : PD → Sl → Prop) : TE := fun σ H Q => ∃ d : { d // (∃ l, L l ∧ d ∈ l) ∧ B d true }, tW (A' d.1) (S d.1) σ H Q
/-- the reading of a comprehension -/
theorem lc_read {vs : List Nat} (Aw : As) (A' : PD → As) (hw : ∀ σ G H, A.p σ G H → Aw.p (wipe σ vs) G H) (hgt : ∀ d, (∃ l, L l ∧ d ∈ l) → GT g vs Aw d (A' d)) (hz : ∀ l, L l → l.length ≤ 100000) (hS : ∀ d s, S d s → ∃ e, s = .da e)
    {σ : L2.St} {G H : Hp} {Q : VK} (ex : Ex G H) (as : A.p σ G H) (q : ∀ l r v G' H', L l → Coll B S l r → Nx G H G' H' → Dd G' v (.list r) → Q v H') :
    tLc (tI A L) g (tLcT A' L B) (tLcE A' L B S) vs σ H Q := by
  refine ⟨G, ex, as, fun items J G1 H1 hL n1 ok D hD => ?_⟩
  have hG1 : G1 D = none := free_of n1.s hD
  refine lc_it (g := g) (tt := tLcT A' L B) (te := tLcE A' L B S) (vs := vs) (σ := σ) (Qd := fun H => Q (.ref D) H) ok (fun i H' => ∃ G' acc r, Nx G1 H1 G' H' ∧ G' D = none ∧ H' D = some (.lst acc) ∧ DdAll G' acc r ∧ Coll B S (items.take i) r) ⟨G1, [], [], Nx.mut (Nx.refl n1.s) hD hG1, hG1, upd_same, .nil, .nil⟩ (fun i H' _ ⟨G', _, _, n, _⟩ => ⟨G', n.g, n.s⟩) ?_ ?_
  · rintro i x H' H'' hi ⟨G', acc, r, n, hGD, hHD, hacc, hcoll⟩ hy
    obtain ⟨G2, d, n2, hd, dx⟩ := hy G' n.g n.s
    have hmem : ∃ l, L l ∧ d ∈ l := ⟨items, hL, List.mem_of_getElem? hd⟩
    have htake : items.take (i + 1) = items.take i ++ [d] := by
      obtain ⟨hlt, e⟩ := List.getElem?_eq_some_iff.mp hd
      rw [← e]
      exact (List.take_append_getElem hlt).symm
    refine hgt d hmem (wipe σ vs) G2 H'' x n2.s (hw _ _ _ (A.m ((n1.trans n).trans n2) as)) dx _ fun σ2 G3 H3 hwp n3 as3 => ?_
    refine ⟨by rw [hwp, wipe_wipe], ⟨d, hmem⟩, G3, n3.s, as3, fun b G4 H4 hb n4 => ?_⟩
    have n24 := (n2.trans n3).trans n4
    cases b with
    | false =>
      refine iteF ⟨G4, acc, r, n.trans n24, n24.nl hGD hHD, n24.h _ _ hHD, hacc.up n24.g, ?_⟩
      rw [htake]
      have := hcoll.append (.skip hb .nil)
      rwa [List.append_nil] at this
    | true =>
      refine iteT ⟨⟨d, hmem, hb⟩, G4, n4.s, (A' d).m n4 as3, fun s y G5 H5 hs n5 dy => ?_⟩
      obtain ⟨e, rfl⟩ := hS d s hs
      have n25 := n24.trans n5
      have hG5 : G5 D = none := n25.nl hGD hHD
      have hlen : acc.length ≤ 100000 := by
        rw [hacc.length]
        have := hcoll.le
        rw [List.length_take] at this
        have := hz items hL
        omega
      refine ⟨acc, n25.h _ _ hHD, by rw [sizeLine_eq]; omega, G5, acc ++ [y], r ++ [e], Nx.mut (n.trans n25) hD hG5, hG5, upd_same, (hacc.up n25.g).append (DdAll.one dy), ?_⟩
      rw [htake]
      exact hcoll.append (.take hb hs .nil)
  · rintro H' ⟨G', acc, r, n, hGD, hHD, hacc, hcoll⟩
    rw [List.take_length] at hcoll
    exact q items r (.ref D) (upd G' D (.lst acc)) H' hL hcoll (n1.trans (Nx.add n hD hGD hHD)) (Dd.lst upd_same (hacc.up (Ex.new hGD)))
theorem w_lcQ (Aw : As) (A' : PD → As) (hc : X.calm = true) (hN : X.N.Nodup) (hi : Wi X A tg it L) (ok : BlkOk X.N X.env.scope scope own)
    (hg : ∀ (s : Shared) (H : Hp) (C : Addr) (cl : List (Str × Addr)) (fp : List Addr), PG (X.blk s H scope (compEnvC scope cl C X.env) fp) tg g)
    (hw : ∀ σ G H, A.p σ G H → Aw.p (wipe σ (own.map (·.2))) G H) (hgt : ∀ d, (∃ l, L l ∧ d ∈ l) → GT g (own.map (·.2)) Aw d (A' d))
    (ht : ∀ d, (∃ l, L l ∧ d ∈ l) → ∀ (s : Shared) (H : Hp) (C : Addr) (cl : List (Str × Addr)) (fp : List Addr), PTs (X.blk s H scope (compEnvC scope cl C X.env) fp) ifs (tTt (A' d) (B d)))
    (he : ∀ d, (∃ l, L l ∧ d ∈ l) → B d true → ∀ (s : Shared) (H : Hp) (C : Addr) (cl : List (Str × Addr)) (fp : List Addr), W (X.blk s H scope (compEnvC scope cl C X.env) fp) (A' d) elt (S d))
    (hz : ∀ l, L l → l.length ≤ 100000) (hS : ∀ d s, S d s → ∃ e, s = .da e) (hs : ∀ x, foldedSetIterable it X.env x = pure x := by intro _; rfl) :
    W X A (.ListComp elt [⟨tg, it, ifs, 0⟩] scope pos) (fun s => ∃ l r, L l ∧ Coll B S l r ∧ s = .da (.list r)) :=
  W.mk (pe_lc (own := own) hc hN hi ok hg (fun s H C cl fp => PTs.exi (t := fun d : { d // ∃ l, L l ∧ d ∈ l } => tTt (A' d.1) (B d.1)) fun d => ht d.1 d.2 s H C cl fp) (fun s H C cl fp => PE.exi (t := fun d : { d // (∃ l, L l ∧ d ∈ l) ∧ B d true } => tW (A' d.1) (S d.1)) fun d => he d.1 d.2.1 d.2.2 s H C cl fp) hs)
    fun σ G H Q ex as q => lc_read Aw A' hw hgt hz hS ex as fun l r v G' H' hl hcoll n dv => q _ v G' H' ⟨l, r, hl, hcoll, rfl⟩ n dv
end
theorem pts_T0 {X : Cx} {A : As} : PTs X [] (tTt A (Eq true)) := ⟨fun pins s σ H Q I ⟨G, ex, as, q⟩ => pts_nil.run pins s σ H Q I (q true G H rfl (Nx.refl ex))⟩
theorem pts_T1 {X : Cx} {A : As} {c : Expr} {B : Bool → Prop} (h : T X A c B) : PTs X [c] (tTt A B) := pts_one h
theorem hw_aT {G0 H0 : Hp} {ρ : List Sl} {M : Mx} {vs : List Nat} (σ : L2.St) (G H : Hp) (h : (aT G0 H0 ρ M).p σ G H) : (aT G0 H0 (wipeS ρ vs) M).p (wipe σ vs) G H := ⟨h.1, h.2.1.wipe vs, h.2.2⟩

/-! ### statements -/
def bot : As := ⟨fun _ _ _ => False, fun _ h => h⟩
def tSs (G0 H0 : Hp) (A N : As) (R : Sl → Prop) : TS := fun D σ H => ∃ G, Ex G H ∧ A.p σ G H ∧ (∀ σ' G' H', Ex G G' → Ex G' H' → N.p σ' G' H' → D.nx σ' H') ∧ ∀ d v G' H', R d → Nx G0 H0 G' H' → SlV G' v d → D.rt v H'
/-- from A the block runs: it falls through to N or hands back one of R -/
def Ss (X : Cx) (G0 H0 : Hp) (A : As) (sts : List Stmt) (N : As) (R : Sl → Prop) : Prop := PSs X sts (tSs G0 H0 A N R)
section
variable {X : Cx} {G0 H0 : Hp} {A A' N B : As} {R S : Sl → Prop} {ρ : List Sl} {M : Mx} {e c : Expr} {rest body orelse : List Stmt} {st : Stmt} {pos p : Pos} {x : Str}
theorem Ss.pre (h : Ss X G0 H0 A' rest N R) (k : ∀ σ G H, A.p σ G H → A'.p σ G H) : Ss X G0 H0 A rest N R := PSs.wk h fun D σ H ⟨G, s, as, q⟩ => ⟨G, s, k _ _ _ as, q⟩
theorem ss_nil : Ss X G0 H0 A [] A R := PSs.wk pss_nil fun D σ H ⟨G, s, as, q, _⟩ => q σ G H (Ex.refl G) s as
theorem ss_bot : Ss X G0 H0 bot rest N R := PSs.wk pss_never fun D σ H ⟨G, s, as, _⟩ => as
theorem pss_wcons {t : TS} (h1 : PS X st t) (h2 : Ss X G0 H0 A' rest N R) (k : ∀ D σ G H, Ex G H → A.p σ G H → (∀ σ' G' H', Ex G G' → Ex G' H' → A'.p σ' G' H' → D.nx σ' H') → (∀ d v G' H', R d → Nx G0 H0 G' H' → SlV G' v d → D.rt v H') → t D σ H) : Ss X G0 H0 A (st :: rest) N R :=
  PSs.wk (pss_cons h1 h2) fun D σ H ⟨G, s, as, q1, q2⟩ => k _ σ G H s as (fun σ' G' H' e' s' as' => ⟨G', s', as', fun σ'' G'' H'' e'' => q1 σ'' G'' H'' (e'.trans e''), q2⟩) q2
theorem ss_set {G1 H1 : Hp} (i : Nat) {py : Pos} (h : W X (aT G0 H0 ρ M) e S) (k : ∀ d, S d → Ss X G1 H1 (aT G0 H0 (ρ.set i d) M) rest N R) (hN : X.N.Nodup) (hi : X.N[i]? = some x) (hx : Loc X.env.scope x) (hs : swapsWith e (some (.Name x py)) pos.line X.env = pure false := by rfl)
    (hf : X.fn x = true ∨ X.env.scope.names.lookup x = some .local := by first | exact .inl rfl | exact .inr rfl | assumption) : Ss X G1 H1 (aT G0 H0 ρ M) (.Assign [.Name x py] e pos :: rest) N R :=
  PSs.wk (pss_cons (ps_set (i := i) hN hi hx h hs hf) (PSs.exi (t := fun d : { d // S d } => tSs G1 H1 (aT G0 H0 (ρ.set i d.1) M) N R) fun d => k d.1 d.2)) fun D σ H ⟨G, s, as, q1, q2⟩ =>
    ⟨G, s, as, fun d v G' H' hd n dv => ⟨⟨d, hd⟩, G', n.s, ⟨as.1.trans n, Rel.set dv i (as.2.1.up n.g), M.m n as.2.2⟩, fun σ'' G'' H'' e'' => q1 σ'' G'' H'' (n.g.trans e''), q2⟩⟩
theorem ss_expr (h : W X A e S) (k : Ss X G0 H0 A rest N R) (hs : swapsWith e none pos.line X.env = pure false := by rfl) : Ss X G0 H0 A (.Expr e pos :: rest) N R :=
  pss_wcons (ps_expr h hs) k fun D σ G H s as q1 _ => ⟨G, s, as, fun d v G' H' hd n dv => q1 σ G' H' n.g n.s (A.m n as)⟩
theorem ss_ret (h : W X (aT G0 H0 ρ M) e S) (k : ∀ d, S d → R d) : Ss X G0 H0 (aT G0 H0 ρ M) (.Return (some e) pos :: rest) N R :=
  pss_wcons (A' := bot) (ps_ret h) ss_bot fun D σ G H s as _ q2 => ⟨G, s, as, fun d v G' H' hd n dv => q2 d v G' H' (k d hd) (as.1.trans n) dv⟩
theorem ss_ifT (hc : TD X A c true) (hb : Ss X G0 H0 A body B R) (k : Ss X G0 H0 B rest N R) : Ss X G0 H0 A (.If c body orelse pos :: rest) N R :=
  pss_wcons (ps_if hc hb (pss_never (sts := orelse))) k fun D σ G H s as q1 q2 => ⟨G, s, as, by
    rintro _ G' H' rfl n
    exact iteT ⟨G', n.s, A.m n as, fun σ'' G'' H'' e'' => q1 σ'' G'' H'' (n.g.trans e''), q2⟩⟩
theorem ss_ifR (hc : TD X A c true) (hb : Ss X G0 H0 A body bot R) : Ss X G0 H0 A (.If c body orelse pos :: rest) N R := ss_ifT hc hb ss_bot
theorem ss_ifF (hc : TD X A c false) (he : Ss X G0 H0 A orelse B R) (k : Ss X G0 H0 B rest N R) : Ss X G0 H0 A (.If c body orelse pos :: rest) N R :=
  pss_wcons (ps_if hc (pss_never (sts := body)) he) k fun D σ G H s as q1 q2 => ⟨G, s, as, by
    rintro _ G' H' rfl n
    exact iteF ⟨G', n.s, A.m n as, fun σ'' G'' H'' e'' => q1 σ'' G'' H'' (n.g.trans e''), q2⟩⟩
theorem ss_ifN (hc : TD X A c false) (k : Ss X G0 H0 A rest N R) : Ss X G0 H0 A (.If c body [] pos :: rest) N R := ss_ifF hc ss_nil k
/-- a test that may go either way; both ways go on to B -/
theorem ss_ifQ {T' : Bool → Prop} (hc : T X A c T') (hb : T' true → Ss X G0 H0 A body B R) (he : T' false → Ss X G0 H0 A orelse B R) (k : Ss X G0 H0 B rest N R) : Ss X G0 H0 A (.If c body orelse pos :: rest) N R := by
  by_cases h1 : T' true <;> by_cases h2 : T' false
  · exact pss_wcons (ps_if hc (hb h1) (he h2)) k fun D σ G H s as q1 q2 => ⟨G, s, as, fun b G' H' hb' n => match b, hb' with
      | true, _ => iteT ⟨G', n.s, A.m n as, fun σ'' G'' H'' e'' => q1 σ'' G'' H'' (n.g.trans e''), q2⟩
      | false, _ => iteF ⟨G', n.s, A.m n as, fun σ'' G'' H'' e'' => q1 σ'' G'' H'' (n.g.trans e''), q2⟩⟩
  · exact pss_wcons (ps_if hc (hb h1) (pss_never (sts := orelse))) k fun D σ G H s as q1 q2 => ⟨G, s, as, fun b G' H' hb' n => match b, hb' with
      | true, _ => iteT ⟨G', n.s, A.m n as, fun σ'' G'' H'' e'' => q1 σ'' G'' H'' (n.g.trans e''), q2⟩
      | false, z => absurd z h2⟩
  · exact pss_wcons (ps_if hc (pss_never (sts := body)) (he h2)) k fun D σ G H s as q1 q2 => ⟨G, s, as, fun b G' H' hb' n => match b, hb' with
      | true, z => absurd z h1
      | false, _ => iteF ⟨G', n.s, A.m n as, fun σ'' G'' H'' e'' => q1 σ'' G'' H'' (n.g.trans e''), q2⟩⟩
  · exact pss_wcons (ps_if hc (pss_never (sts := body)) (pss_never (sts := orelse))) k fun D σ G H s as q1 q2 => ⟨G, s, as, fun b G' H' hb' n => match b, hb' with
      | true, z => absurd z h1
      | false, z => absurd z h2⟩
/-- for over items: I by the turn -/
theorem ss_for {tg it : Expr} {L : List PD → Prop} {g : TG} {vs : List Nat} (I : List PD → Nat → As) (I' : List PD → Nat → As) (hp : PassesOwn (model X.prog X.w) X.A X.env X.xe) (hc : X.calm = true) (hi : Wi X A tg it L) (hg : PG X tg g)
    (h0 : ∀ l, L l → ∀ σ G H, A.p σ G H → (I l 0).p σ G H)
    (hgt : ∀ l i d, L l → l[i]? = some d → GT g vs (I l i) d (I' l i))
    (hb : ∀ l i d, L l → l[i]? = some d → Ss X G0 H0 (I' l i) body (I l (i + 1)) R) (k : ∀ l, L l → Ss X G0 H0 (I l l.length) rest N R)
    (hs : ∀ x, foldedSetIterable it X.env x = pure x := by intro _; rfl) : Ss X G0 H0 A (.For tg it body [] pos :: rest) N R := by
  have body' : PSs X body (fun D σ H => ∃ z : { z : List PD × Nat // L z.1 ∧ z.2 < z.1.length }, tSs G0 H0 (I' z.1.1 z.1.2) (I z.1.1 (z.1.2 + 1)) R D σ H) :=
    PSs.exi fun z => hb z.1.1 z.1.2 _ z.2.1 (List.getElem?_eq_getElem z.2.2)
  have rest' : PSs X rest (fun D σ H => ∃ l : { l // L l }, tSs G0 H0 (I l.1 l.1.length) N R D σ H) := PSs.exi fun l => k l.1 l.2
  refine PSs.wk (pss_cons (ps_for hp hc hi hg body' hs) rest') ?_
  rintro D σ H ⟨G, s, as, q1, q2⟩
  refine ⟨G, s, as, fun items J G1 H1 hL n1 ok => ?_⟩
  refine for_it (g := g) (tb := fun D σ H => ∃ z : { z : List PD × Nat // L z.1 ∧ z.2 < z.1.length }, tSs G0 H0 (I' z.1.1 z.1.2) (I z.1.1 (z.1.2 + 1)) R D σ H) ok (fun i σ' H' => ∃ G', Ex G1 G' ∧ Ex G' H' ∧ (I items i).p σ' G' H') ⟨G1, Ex.refl G1, n1.s, h0 items hL σ G1 H1 (A.m n1 as)⟩ (fun i σ' H' _ ⟨G', n, n', _⟩ => ⟨G', n, n'⟩) ?_ ?_
  · rintro i x σ' H' H'' hi' ⟨G', n, n', ai⟩ hy
    obtain ⟨G2, d, n2, hd, dx⟩ := hy G' n n'
    refine hgt items i d hL hd σ' G2 H'' x n2.s ((I items i).m n2 ai) dx _ fun σ2 G3 H3 _ n3 a3 => ?_
    exact ⟨⟨(items, i), hL, hi'⟩, G3, n3.s, a3, fun σ4 G4 H4 e4 s4 a4 => ⟨G4, n.trans (n2.g.trans (n3.g.trans e4)), s4, a4⟩, q2⟩
  · rintro σ' H' ⟨G', n, n', ai⟩
    exact ⟨⟨items, hL⟩, G', n', ai, fun σ'' G'' H'' e'' => q1 σ'' G'' H'' (n1.g.trans (n.trans e'')), q2⟩
end
end Fc
/-! FcD: the text, how a def keeps its promise, the checks. -/
namespace Fc
open PySem PySem.Spec PyProof.Rows L2
open Evl (Ex)

def topS (i : Nat) : Stmt := PySem.Challenge.pw_rulerows_k08_whole_fitting_cases.main.body.getD i (.Pass ⟨0, 0, 0, 0⟩)
/-- the built-ins' names that are still the built-ins, the constants -/
structure Txt (K : PySem.W.Frag) (mg : Str → Option Value) : Prop where
  isi : mg "isinstance" = none
  len : mg "len" = none
  all : mg "all" = none
  any : mg "any" = none
  sum : mg "sum" = none
  sorted : mg "sorted" = none
  tuple : mg "tuple" = none
  list : mg "list" = none
  range : mg "range" = none
  enum : mg "enumerate" = none
  abs : mg "abs" = none
  int : mg "int" = none
  bool : mg "bool" = none
  str : mg "str" = none
  mF : ∃ t, mg "MOST_FIELDS" = some (.int 3 t)
  mW : ∃ t, mg "MOST_WIDTH" = some (.int 8 t)
  mR : ∃ t, mg "MOST_RULES" = some (.int 7 t)
  lA : ∃ t, mg "LAST_ACTION" = some (.int 5 t)
section
variable {P : Program} {w : World} {K : PySem.W.Frag} {mg : Str → Option Value} {base : Heap} {f : Addr} {fd : FuncData} {k : Nat} {x qual : Str} {st : Stmt} {N ps : List Str}
/-- a def that raises nothing -/
theorem def_of {F : List Sl → (Sl → Prop) → Prop} (Fn : Fun K x qual st f fd) (hm : mg x = some (.ref f)) (hb : Binds K fd ps []) (S : FnScope N ps (defScope st)) (len : ∀ ss S, F ss S → ss.length = ps.length)
    (body : ∀ (cdv : Value) (A : Around) (outer : List Env) (s : Shared) (H : Hp) (E : XK), Room k (A.deeper (envOfC qual (defScope st) s.heap.objs.size f cdv)) → ∀ ss S, F ss S → ∀ G0 H0,
      Ss (cxOf CX0 P w K mg base N qual (defScope st) f cdv A outer s H E).nox G0 H0 (aT G0 H0 (ss ++ List.replicate (N.length - ss.length) .no) M0) (defBody st) bot S) : Def P w K mg base CX0 (k + 1) x ps (spF F) := by
  refine ⟨f, fd, Fn.ok S (fun vs H Q E h => ?_) (fun cdv A outer s H vs Q E hr h => ?_), hm, Fn.kp, hb⟩
  · obtain ⟨G, ss, S, h1, _, h2, _⟩ := h
    rw [h2.length]
    exact len _ _ h1
  · obtain ⟨G, ss, S, h1, h2, h3, h4⟩ := h
    exact ⟨_, body cdv A outer s H E hr ss S h1 G H, G, h2, ⟨Nx.refl h2, Rel.start h3, True.intro⟩, fun _ _ _ _ _ z => z.elim, h4⟩
end
/-! ### is_between -/
def isBetween : PD → Int → Int → Bool
  | .int i, lo, hi => decide (lo ≤ i) && decide (i ≤ hi)
  | _, _, _ => false
def FBetween (ss : List Sl) (S : Sl → Prop) : Prop := ∃ d lo hi, ss = [.da d, .da (.int lo), .da (.int hi)] ∧ S = Eq (.da (.bool (isBetween d lo hi)))
abbrev sBetween : Stmt := topS 8
theorem scBetween : FnScope ["value", "low", "high"] ["value", "low", "high"] (defScope sBetween) := ⟨rfl, rfl, rfl, by decide +kernel, rfl, by decide +kernel, by decide +kernel⟩
section
variable {P : Program} {w : World} {K : PySem.W.Frag} {mg : Str → Option Value} {base : Heap} {f : Addr} {fd : FuncData} {k : Nat}
theorem d_between (T : Txt K mg) (Fn : Fun K "is_between" "is_between" sBetween f fd) (hm : mg "is_between" = some (.ref f)) (hb : Binds K fd ["value", "low", "high"] []) : Def P w K mg base CX0 1 "is_between" ["value", "low", "high"] (spF FBetween) := by
  refine def_of Fn hm hb scBetween (by rintro _ _ ⟨d, lo, hi, rfl, rfl⟩; rfl) (fun cdv A outer s H E hr => ?_)
  rintro _ _ ⟨d, lo, hi, rfl, rfl⟩ G0 H0
  refine ss_ret (w_and (w_isi (w_var 0) (w_ty (T := "int") T.int (by decide +kernel)) (kit_int d) T.isi) fun h1 => w_and (w_not (w_isi (w_var 0) (w_ty (T := "bool") T.bool (by decide +kernel)) (kit_bool d) T.isi)) fun h2 => w_one (?_ : WD _ _ _ (.bool (isBetween d lo hi)))) ?_
  · cases d with
    | int i => exact w_chain cmp_le cmp_le (w_var 1) (w_var 0) (w_var 2)
    | bool b => cases h2
    | _ => cases h1
  · rintro _ rfl
    cases d <;> simp [isBetween]
end
end Fc
/-! FcL: enumerate of a tuple. -/
namespace PySem
open Sem (wp)
open AutoSeq1 (wpAny_loadPart')
/-- enumerate(v) makes an iterator of v, then the counter -/
theorem new_enum {v : Value} {ob : Obj} {Hv : Heap → Prop} (Bg : Begins v ob Hv) :
    Meets (Builtin.«enumerate.__new__» ⟨[.type "enumerate", v], []⟩) (fun _ R z => Hv z.heap ∧
      R (.ok (.ret (.ref (z.heap.push ob).objs.size))) { z with heap := (z.heap.push ob).push { cls := .type "enumerate", data := .fields #[.none, .bool false, .ref z.heap.objs.size, rawInt 0, .none, .none] } }) := by
  refine .of_wp fun P W B R z hz => ?_
  obtain ⟨h0, gs, dn, tz, oz⟩ := z
  obtain ⟨hv, hR⟩ := hz
  have sb := sub_enumerate
  have it0 : ∀ {B' : Around} {Er : Value → Shared → Prop} {Qr : Value → Shared → Prop}, Qr (.ref h0.objs.size) ⟨h0.push ob, gs, dn, tz, oz⟩ → wpAny (model P W) B' (pyIter v) Qr Er ⟨h0, gs, dn, tz, oz⟩ := fun q => Bg.iter P W _ _ ⟨h0, gs, dn, tz, oz⟩ _ hv q
  wp_walk using it0
  refine wpAny_stack_any fun _ => wpAny_pure ?_
  split
  next c _ _ _ _ _ => cases (c == Value.type "enumerate") <;> (wp_walk using it0; exact ⟨_, rfl, hR⟩)
  next => wp_walk using it0; exact ⟨_, rfl, hR⟩
section
variable {P : Program} {W : World} {B : Around} {Er : Value → Shared → Prop} {z : Shared}
theorem call_enum {v : Value} {ob : Obj} {Hv : Heap → Prop} {Qr : Value → Shared → Prop} (Bg : Begins v ob Hv) (hv : Hv z.heap)
    (k : ∀ hN, IsEnum hN (z.heap.objs.size + 1) z.heap.objs.size 0 .none → hN.get? z.heap.objs.size = some ob → (∀ b u, z.heap.get? b = some u → hN.get? b = some u) → Qr (.ref (z.heap.objs.size + 1)) { z with heap := hN }) :
    wpAny (model P W) B (call (.type "enumerate") [v]) Qr Er z := by
  have sz : (z.heap.push ob).objs.size = z.heap.objs.size + 1 := by rw [Heap.size_push]
  have last := Heap.get?_push_size (z.heap.push ob) (o := { cls := .type "enumerate", data := .fields #[.none, .bool false, .ref z.heap.objs.size, rawInt 0, .none, .none] }) rfl
  rw [sz] at last
  refine callType_new F.called_enumerate (by decide) (F.typeCall_enumerate_1 _) (F.newCall_enumerate_1 _) (fun u => F.args_object_init_2 u _) F.entry_enumerate_new (new_enum Bg) ⟨hv, ?_⟩
  show _ ∧ _
  rw [sz]
  exact ⟨⟨_, last, rfl⟩, k _ last (Heap.get?_push_of_some _ (Heap.get?_push_size _ Bg.free)) fun b u q => Heap.get?_push_of_some _ (Heap.get?_push_of_some _ q)⟩
end
end PySem

namespace Fc
open PySem PySem.Spec PyProof.Rows L2
open Evl (Ex)
/-- the tuple at a, each item in a new pair with its place -/
def IteT (K : PySem.W.Frag) (a : Addr) : It :=
  ⟨fun i H => ∃ (xs : List V) (x : V), SqT K H a xs ∧ xs[i]? = some x, fun i H v H' => ∃ T x, v = .ref T ∧ H T = none ∧ H' = upd H T (.tup [.int (i : Nat), x]) ∧ ∀ xs, SqT K H a xs → xs[i]? = some x, fun i H => ∃ xs : List V, SqT K H a xs ∧ xs.length = i⟩
/-- a tuple is none of the two iterators -/
theorem tup_apart {h : Heap} {a q : Addr} {xs : Array Value} {T : String} (p : IsTup h a xs) (hT : "tuple" ≠ T) (hq : ∃ u, h.get? q = some u ∧ u.cls = .type T) : a ≠ q := by
  rintro rfl
  obtain ⟨u, e1, c1, _⟩ := p
  obtain ⟨u', e2, c2⟩ := hq
  cases e1.symm.trans e2
  exact hT (Value.type.inj (c1.symm.trans c2))
theorem turn_enumT {P : Program} {w : World} {K : PySem.W.Frag} {elts : List Expr} {kk : Nat} {tpos : Pos} (a e q : Addr) :
    Turn P w K (.Tuple elts kk tpos) (IteT K a) [e, q] e (fun i h => (∃ v, IsEnum h e q ((i : Nat) : Int) v) ∧ h.IsTupleIter q a i ∧ e ≠ q) where
  mem := List.mem_cons_self
  obj := by
    rintro i h ⟨⟨v0, ee⟩, ⟨u, eu, cu, du⟩, _⟩ b hb
    rcases List.mem_cons.mp hb with rfl | hb
    · exact ⟨_, ee, fun _ z => nomatch z⟩
    · cases List.mem_singleton.mp hb
      exact ⟨u, eu, fun _ z => by rw [du] at z; cases z⟩
  keep := by
    rintro i h h' ⟨⟨v0, ee⟩, eq, ne⟩ kk
    exact ⟨⟨v0, kk e List.mem_cons_self _ ee⟩, eq.at fun u z => kk q (by simp) u z, ne⟩
  item := by
    rintro X rfl rfl rfl hcalm i pins σ' σ H E I far ⟨⟨v0, ee⟩, eq, ne⟩ ⟨xs, x, hsq, hx⟩
    obtain ⟨us, rus, tp, _⟩ := I.tuple hsq
    obtain ⟨u, hu, ru⟩ := rus.get hx
    have el := Heap.lt_size ee
    have ql : q < σ'.heap.objs.size := by obtain ⟨_, z, _⟩ := eq; exact Heap.lt_size z
    have ae : a ≠ e := tup_apart (T := "enumerate") tp (by decide) ⟨_, ee, rfl⟩
    have aq : a ≠ q := tup_apart (T := "tuple_iterator") tp (by decide) (by obtain ⟨u, z, c, _⟩ := eq; exact ⟨u, z, c⟩)
    have hi : i < us.toArray.size := by
      rw [List.size_toArray]
      exact (List.getElem?_eq_some_iff.mp hu).1
    refine wpAny_pyNext_enum_itemD (Draws.tuple (prog := X.prog) (w := X.w) (A := X.A.in1) (I.ok.hd hcalm) q a aq us.toArray) ee ⟨eq, tp⟩ hi ne (by simp [ne, Ne.symm ae]) fun y h1 t1 hP e1 st1 g1 _ k1 => ?_
    have ey : y = u := by
      rw [show us.toArray[i]? = some u by simpa using hu] at hP
      exact Option.some.inj hP.symm
    subst ey
    refine ⟨_, rfl, wpAny_letOwnedTupleGo_enum (s := { σ' with heap := h1, toks := t1 + 1 }) e1 fun h2 e2 sm => ?_⟩
    have fresh := I.hok.fresh (Nat.le_refl _)
    have g2 := (sm.2 _ (Nat.ne_of_gt el)).trans g1
    have J := I.turnedNew (ch := [e, q]) (h' := h2) (t' := t1 + 1) (ob := .tup [.int (i : Nat), x]) (fun b ob hb z => by
      have be : b ≠ e := fun z => hb (by simp [z])
      have bq : b ≠ q := fun z => hb (by simp [z])
      exact (sm.2 b be).trans (k1 b ob be bq z)) far (Nat.le_refl _) ⟨by rw [sizeLine_eq]; show 2 ≤ 16777216; decide, [.int i t1, y], .cons ⟨_, rfl⟩ (.cons ru .nil), ⟨_, g2, rfl, _, rfl⟩⟩
    refine ⟨.ref σ'.heap.objs.size, _, J, rfl, ⟨_, x, rfl, fresh, rfl, fun ys hy => by rw [I.tuple_inj hy hsq]; exact hx⟩, ⟨⟨y, by rw [Int.natCast_succ]; exact e2⟩, st1.1.at fun u z => (sm.2 q (Ne.symm ne)).trans z, ne⟩, fun b hb => ?_⟩
    have bl : b < σ'.heap.objs.size := by
      rcases List.mem_cons.mp hb with rfl | hb
      · exact el
      · rw [List.mem_singleton.mp hb]; exact ql
    rw [upd_ne (Nat.ne_of_lt bl)]
    exact (far b hb).1
  done := by
    rintro X rfl rfl rfl hcalm i pins σ' σ H E I far ⟨⟨v0, ee⟩, eq, ne⟩ ⟨xs, hsq, hl⟩
    obtain ⟨us, rus, tp, _⟩ := I.tuple hsq
    obtain ⟨a0, a1, _, a3, a4, a5⟩ := far q (by simp)
    have aq : a ≠ q := tup_apart (T := "tuple_iterator") tp (by decide) (by obtain ⟨u, z, c, _⟩ := eq; exact ⟨u, z, c⟩)
    obtain rfl : i = us.toArray.size := by rw [List.size_toArray, ← rus.length, hl]
    exact wpAny_pyNext_enum_endD (Draws.tuple (prog := X.prog) (w := X.w) (A := X.A.in1) (I.ok.hd hcalm) q a aq us.toArray) ee ⟨eq, tp⟩ fun h1 far1 => ⟨rfl, I.turned (t' := σ'.toks) (fun b u hb z => far1 b u hb z) a0 a1 a3 a4 a5⟩
  self := by
    rintro A i σ' Q E ⟨⟨_, ee⟩, _⟩ h
    exact wpAny_pyIter_enum ee h
def iEnumT (K : PySem.W.Frag) (ta : TA) : TI := fun σ H R => ta σ H fun vs H1 => ∃ a xs, vs = [.ref a] ∧ SqT K H1 a xs ∧ R (IteT K a) H1
theorem pi_enumT {X : Cx} {e : Expr} {ta : TA} {p pos tpos : Pos} {elts : List Expr} {kk : Nat} (hg : Gl X "enumerate") (hm : X.mg "enumerate" = none) (ha : PA X [e] ta) (hs : starEach [e] X.env = [(false, eval e X.env)] := by rfl) :
    PI X (.Tuple elts kk tpos) (.Call (.Name "enumerate" p) [e] [] pos) (iEnumT X.K ta) := ⟨by
  intro pins z σ H R I h
  refine Call_ (ld_blt I hg hm boot_enumerate (PyProof.Rows.callWith_type1 (thn (ha.run pos pins z σ H _ I h) ?_) hs rfl))
  rintro us z1 ⟨vs, H1, I1, rus, a, xs, rfl, hsq, q⟩
  obtain ⟨u, rfl, ru⟩ := vals1 rus
  cases ru
  obtain ⟨its, _, tp, _⟩ := I1.tuple hsq
  refine call_enum (begins_tuple a its.toArray) (show z1.heap.IsTuple a its.toArray from tp) fun hN en eo kp => wpAny_pyIter_enum en ?_
  refine ⟨z1.heap.objs.size + 1, [z1.heap.objs.size + 1, z1.heap.objs.size], _, _, H1, rfl, I1.kept (t' := z1.toks) kp, turn_enumT a (z1.heap.objs.size + 1) z1.heap.objs.size, ⟨⟨.none, en⟩, ⟨_, eo, rfl, rfl⟩, Nat.succ_ne_self _⟩, fun b hb => ?_, q⟩
  have ge : z1.heap.objs.size ≤ b := by
    rcases List.mem_cons.mp hb with rfl | hb
    · exact Nat.le_succ _
    · rw [List.mem_singleton.mp hb]; exact Nat.le_refl _
  exact I1.fpOk ge (I1.hok.fresh ge)⟩
/-- the pairs of places and items -/
def enumD (ds : List PD) : List PD := ds.zipIdx.map fun p => .tuple [.int (p.2 : Nat), p.1]
theorem enumD_length (ds : List PD) : (enumD ds).length = ds.length := by unfold enumD; rw [List.length_map, List.length_zipIdx]
theorem enumD_get {ds : List PD} {i : Nat} {d : PD} (h : ds[i]? = some d) : (enumD ds)[i]? = some (.tuple [.int (i : Nat), d]) := by
  unfold enumD
  rw [List.getElem?_map, List.getElem?_zipIdx, h]
  simp
section
variable {X : Cx} {A : As} {e : Expr} {p pos tpos : Pos} {elts : List Expr} {kk : Nat}
theorem wi_enumT {ds : List PD} (h : WD X A e (.tuple ds)) (hm : X.mg "enumerate" = none) (hg : Gl X "enumerate" := by rfl) (hs : starEach [e] X.env = [(false, eval e X.env)] := by rfl) :
    Wi X A (.Tuple elts kk tpos) (.Call (.Name "enumerate" p) [e] [] pos) (Eq (enumD ds)) := PI.wk (pi_enumT hg hm (ws_one h hs) hs) (by
  rintro σ H R ⟨G, s, as, q⟩
  refine ⟨G, s, as, ?_⟩
  rintro _ vs G1 H1 rfl n1 dv
  obtain ⟨v, rfl, dv'⟩ := slAll1 dv
  cases dv' with
  | @tup a us _ h1 h2 =>
    refine ⟨a, us, rfl, SqT.of (n1.s _ _ h1), q _ _ G1 H1 rfl n1 ⟨?_, ?_, ?_⟩⟩
    · rintro i H' hi ⟨G', n, n'⟩
      rw [enumD_length] at hi
      obtain ⟨x, hx, _⟩ := h2.get (List.getElem?_eq_getElem hi)
      exact ⟨us, x, SqT.of (n' _ _ (n _ _ h1)), hx⟩
    · rintro H' ⟨G', n, n'⟩
      exact ⟨us, SqT.of (n' _ _ (n _ _ h1)), by rw [h2.length, enumD_length]⟩
    · rintro i H' x H'' hi ⟨G0, n0⟩ ⟨T, y, rfl, hT, rfl, hy⟩ G' n n'
      have hx := hy us (SqT.of (n' _ _ (n _ _ h1)))
      obtain ⟨d, hd, dd⟩ := h2.getV hx
      exact ⟨upd G' T (.tup [.int (i : Nat), y]), _, Nx.new n' hT, enumD_get hd, Dd.tup upd_same (.cons (Dd.int _) (.cons (dd.up (n.trans (Ex.new (free_of n' hT)))) .nil))⟩)
end
end Fc
/-! FcE: comprehensions over typed items; the checks. -/
namespace Fc
open PySem PySem.Spec PyProof.Rows L2
open Evl (Ex)
theorem T.imp {X : Cx} {A : As} {e : Expr} {B B' : Bool → Prop} (h : T X A e B) (k : ∀ b, B b → B' b) : T X A e B' := PT.wk h fun σ H Q ⟨G, s, a, q⟩ => ⟨G, s, a, fun b G' H' hb => q b G' H' (k b hb)⟩
theorem PTs.wk {X : Cx} {es : List Expr} {t t' : TT} (h : PTs X es t) (k : ∀ σ H Q, t' σ H Q → t σ H Q) : PTs X es t' := ⟨fun pins s σ H Q I q => h.run pins s σ H Q I (k _ _ _ q)⟩
section
variable {X : Cx} {A Aw : As} {elt tg it : Expr} {ifs : List Expr} {scope : Scope} {own : List (Str × Nat)} {pos : Pos} {g : TG} {α : Type} {G0 H0 : Hp} {ρ : List Sl} {M : Mx}
theorem w_lc (l : List α) (enc : α → PD) (A' : α → As) (f : α → Bool) (r : α → PD) (hc : X.calm = true) (hN : X.N.Nodup) (hi : Wi X (aT G0 H0 ρ M) tg it (Eq (l.map enc))) (ok : BlkOk X.N X.env.scope scope own)
    (hg : ∀ (s : Shared) (H : Hp) (C : Addr) (cl : List (Str × Addr)) (fp : List Addr), PG (X.blk s H scope (compEnvC scope cl C X.env) fp) tg g)
    (hgt : ∀ a ∈ l, GT g (own.map (·.2)) (aT G0 H0 (wipeS ρ (own.map (·.2))) M) (enc a) (A' a))
    (ht : ∀ a ∈ l, ∀ (s : Shared) (H : Hp) (C : Addr) (cl : List (Str × Addr)) (fp : List Addr), PTs (X.blk s H scope (compEnvC scope cl C X.env) fp) ifs (tTt (A' a) (Eq (f a))))
    (he : ∀ a ∈ l, f a = true → ∀ (s : Shared) (H : Hp) (C : Addr) (cl : List (Str × Addr)) (fp : List Addr), WD (X.blk s H scope (compEnvC scope cl C X.env) fp) (A' a) elt (r a))
    (inj : ∀ a b, enc a = enc b → a = b) (hz : l.length ≤ 100000) (hs : ∀ x, foldedSetIterable it X.env x = pure x := by intro _; rfl) :
    WD X (aT G0 H0 ρ M) (.ListComp elt [⟨tg, it, ifs, 0⟩] scope pos) (.list ((l.filter f).map r)) := by
  have key := w_lcQ (own := own) (pos := pos) (elt := elt) (ifs := ifs) (B := fun d b => ∃ a ∈ l, d = enc a ∧ b = f a) (S := fun d s => ∃ a ∈ l, d = enc a ∧ s = .da (r a)) (aT G0 H0 (wipeS ρ (own.map (·.2))) M)
    (fun d => ⟨fun σ G H => ∃ a ∈ l, d = enc a ∧ (A' a).p σ G H, fun n ⟨a, h1, h2, h3⟩ => ⟨a, h1, h2, (A' a).m n h3⟩⟩) hc hN hi ok hg hw_aT
    (by
      rintro d ⟨_, rfl, hd⟩ σ G H v s as dv Q q
      obtain ⟨a, ha, rfl⟩ := List.mem_map.mp hd
      exact hgt a ha σ G H v s as dv Q fun σ' G' H' hw n as' => q σ' G' H' hw n ⟨a, ha, rfl, as'⟩)
    (by
      rintro d ⟨_, rfl, hd⟩ s H C cl fp
      obtain ⟨a, ha, rfl⟩ := List.mem_map.mp hd
      refine PTs.wk (ht a ha s H C cl fp) ?_
      rintro σ H Q ⟨G, s, ⟨a', ha', e, as⟩, q⟩
      cases inj _ _ e
      exact ⟨G, s, as, fun b G' H' hb => q b G' H' ⟨a, ha, rfl, hb.symm⟩⟩)
    (by
      rintro d ⟨_, rfl, hd⟩ ⟨a, ha, rfl, hb⟩ s H C cl fp
      refine PE.wk (he a ha hb.symm s H C cl fp) ?_
      rintro σ H Q ⟨G, s, ⟨a', ha', e, as⟩, q⟩
      cases inj _ _ e
      exact ⟨G, s, as, fun b v G' H' hb => q b v G' H' ⟨a, ha, rfl, hb.symm⟩⟩)
    (by
      rintro _ rfl
      rw [List.length_map]
      exact hz)
    (by
      rintro d _ ⟨a, _, _, rfl⟩
      exact ⟨_, rfl⟩) hs
  refine key.imp ?_
  rintro _ ⟨_, res, rfl, hcoll, rfl⟩
  rw [Coll.detT (f := f) (g := r) ?_ ?_ hcoll]
  · rintro a ha b ⟨a', ha', e, rfl⟩
    cases inj _ _ e
    rfl
  · rintro a ha _ e ⟨a', ha', e', h⟩
    cases inj _ _ e'
    injection h
/-- no test -/
theorem w_lc0 (l : List α) (enc : α → PD) (A' : α → As) (r : α → PD) (hc : X.calm = true) (hN : X.N.Nodup) (hi : Wi X (aT G0 H0 ρ M) tg it (Eq (l.map enc))) (ok : BlkOk X.N X.env.scope scope own)
    (hg : ∀ (s : Shared) (H : Hp) (C : Addr) (cl : List (Str × Addr)) (fp : List Addr), PG (X.blk s H scope (compEnvC scope cl C X.env) fp) tg g)
    (hgt : ∀ a ∈ l, GT g (own.map (·.2)) (aT G0 H0 (wipeS ρ (own.map (·.2))) M) (enc a) (A' a))
    (he : ∀ a ∈ l, ∀ (s : Shared) (H : Hp) (C : Addr) (cl : List (Str × Addr)) (fp : List Addr), WD (X.blk s H scope (compEnvC scope cl C X.env) fp) (A' a) elt (r a))
    (inj : ∀ a b, enc a = enc b → a = b) (hz : l.length ≤ 100000) (hs : ∀ x, foldedSetIterable it X.env x = pure x := by intro _; rfl) :
    WD X (aT G0 H0 ρ M) (.ListComp elt [⟨tg, it, [], 0⟩] scope pos) (.list (l.map r)) :=
  (w_lc l enc A' (fun _ => true) r hc hN hi ok hg hgt (fun a ha s H C cl fp => pts_T0) (fun a ha _ => he a ha) inj hz hs).to (by rw [List.filter_eq_self.mpr (fun _ _ => rfl)])
variable {e : Expr} {p : Pos}
theorem w_allF {l : List α} {b : α → Bool} (hc : X.calm = true) (h : WD X A e (.list (l.map fun a => .bool (b a)))) (hm : X.mg "all" = none) (hg : Gl X "all" := by rfl) (he : starEach [e] X.env = (false, eval e X.env) :: starEach [] X.env := by rfl) : WD X A (.Call (.Name "all" p) [e] [] pos) (.bool (l.all b)) :=
  (w_all (bs := l.map b) hc (h.to (by rw [List.map_map]; rfl)) hm hg he).to (by rw [List.all_map]; rfl)
theorem w_anyF {l : List α} {b : α → Bool} (hc : X.calm = true) (h : WD X A e (.list (l.map fun a => .bool (b a)))) (hm : X.mg "any" = none) (hg : Gl X "any" := by rfl) (he : starEach [e] X.env = (false, eval e X.env) :: starEach [] X.env := by rfl) : WD X A (.Call (.Name "any" p) [e] [] pos) (.bool (l.any b)) :=
  (w_any (bs := l.map b) hc (h.to (by rw [List.map_map]; rfl)) hm hg he).to (by rw [List.any_map]; rfl)
end
theorem int_inj (a b : Int) (h : PyData.int a = PyData.int b) : a = b := by injection h
theorem id_inj (a b : PD) (h : id a = id b) : a = b := h
theorem map_id' (l : List PD) : l = l.map id := by simp
theorem Wi.to {X : Cx} {A : As} {tg it : Expr} {l l' : List PD} (h : Wi X A tg it (Eq l)) (e : l = l') : Wi X A tg it (Eq l') := e ▸ h

/-! ### is_widths -/
def isWidths : PD → Bool
  | .tuple ds => (decide (1 ≤ ds.length) && decide (ds.length ≤ 3)) && ds.all fun d => isBetween d 1 8
  | _ => false
def FWidths (ss : List Sl) (S : Sl → Prop) : Prop := ∃ d, ss = [.da d] ∧ S = Eq (.da (.bool (isWidths d)))
abbrev sWidths : Stmt := topS 9
theorem scWidths : FnScope ["value", "width"] ["value"] (defScope sWidths) := ⟨rfl, rfl, rfl, by decide +kernel, rfl, by decide +kernel, by decide +kernel⟩
section
variable {P : Program} {w : World} {K : PySem.W.Frag} {mg : Str → Option Value} {base : Heap} {f : Addr} {fd : FuncData} {k : Nat}
theorem d_widths (T : Txt K mg) (D1 : Def P w K mg base CX0 1 "is_between" ["value", "low", "high"] (spF FBetween)) (Fn : Fun K "is_widths" "is_widths" sWidths f fd) (hm : mg "is_widths" = some (.ref f)) (hb : Binds K fd ["value"] []) : Def P w K mg base CX0 2 "is_widths" ["value"] (spF FWidths) := by
  refine def_of Fn hm hb scWidths (by rintro _ _ ⟨d, rfl, rfl⟩; rfl) (fun cdv A outer s H E hr => ?_)
  rintro _ _ ⟨d, rfl, rfl⟩ G0 H0
  obtain ⟨tF, hF⟩ := T.mF
  obtain ⟨tW, hW⟩ := T.mW
  by_cases ht : ∃ ds, d = .tuple ds
  · obtain ⟨ds, rfl⟩ := ht
    by_cases hl : 1 ≤ ds.length ∧ ds.length ≤ 3
    · refine ss_ifN (TD.to (t_w (tw_or (t_not (t_val (w_isi (w_var 0) (w_ty (T := "tuple") T.tuple (by decide +kernel)) (kit_tuple _) T.isi))) fun _ => tw_or1 (t_not (t_chain cmp_le cmp_le w_int (w_lenT (w_var 0) T.len) (w_globI hF))))) ?_) ?_
      · rw [decide_eq_true (by omega), decide_eq_true (by omega)]; rfl
      · refine ss_ret (w_allF rfl (w_lc0 (own := [("width", 1)]) ds id (fun a => aT G0 H0 [.da (.tuple ds), .da a] M0) (fun a => .bool (isBetween a 1 8)) rfl scWidths.nd ((wi_tup (w_var 0)).to (map_id' ds)) (blkOk_by (own := [("width", 1)]) (N := ["value", "width"]) (sc := defScope sWidths) (by decide +kernel))
          (fun _ _ _ _ _ => pg_name (i := 1) scWidths.nd rfl (Or.inl rfl)) (fun a _ => gt_name 1) (fun a _ s H C cl fp => ?_) id_inj (by omega)) T.all) ?_
        · exact w_call D1 hr (ws_cons (w_var 1) (ws_cons w_int (ws_cons (w_globI hW) ws_nil))) ⟨a, 1, 8, rfl, rfl⟩
        · rintro _ rfl
          simp [isWidths, hl.1, hl.2]
    · refine ss_ifR (TD.to (t_w (tw_or (t_not (t_val (w_isi (w_var 0) (w_ty (T := "tuple") T.tuple (by decide +kernel)) (kit_tuple _) T.isi))) fun _ => tw_or1 (t_not (t_chain cmp_le cmp_le w_int (w_lenT (w_var 0) T.len) (w_globI hF))))) ?_) (ss_ret w_bl ?_)
      · by_cases h1 : 1 ≤ ds.length
        · rw [decide_eq_false (p := (ds.length : Int) ≤ 3) (by omega)]; simp
        · rw [decide_eq_false (p := (1 : Int) ≤ ds.length) (by omega)]; simp
      · rintro _ rfl
        by_cases h1 : 1 ≤ ds.length
        · simp [isWidths, show ¬ ds.length ≤ 3 by omega]
        · simp [isWidths, show ¬ 1 ≤ ds.length by omega]
  · refine ss_ifR (TD.to (t_w (tw_or (y := true) (t_not (t_val (w_isi (w_var 0) (w_ty (T := "tuple") T.tuple (by decide +kernel)) (kit_tuple _) T.isi))) fun h => ?_)) ?_) (ss_ret w_bl ?_)
    · exfalso
      cases d <;> first | exact ht ⟨_, rfl⟩ | cases h
    · cases d <;> first | exact absurd ⟨_, rfl⟩ ht | rfl
    · rintro _ rfl
      cases d <;> first | exact absurd ⟨_, rfl⟩ ht | rfl
end
end Fc
/-! FcF: the checks of lists, cases, sets. -/
namespace Fc
open PySem PySem.Spec PyProof.Rows L2
open Evl (Ex)
/-! ### data by total functions -/
def isTup : PD → Bool
  | .tuple _ => true
  | _ => false
def its : PD → List PD
  | .tuple l => l
  | .list l => l
  | _ => []
def it (d : PD) (i : Nat) : PD := (its d).getD i .none
def intD : PD → Int
  | .int i => i
  | _ => 0
theorem kit_tup (d : PD) : kitB (tyD d) "tuple" = some (isTup d) := by
  rw [kit_tuple]
  cases d <;> rfl
theorem tup_of {d : PD} (h : isTup d = true) : d = .tuple (its d) := by
  cases d <;> first | rfl | cases h
theorem seq_of {d : PD} (h : isTup d = true) : seqD d = some (its d) := by
  cases d <;> first | rfl | cases h
theorem atI_getD {l : List PD} {i : Nat} (h : i < l.length) : atI l (i : Int) = some (l.getD i .none) := atI_nat (by
  rw [List.getElem?_eq_getElem h, List.getD_eq_getElem?_getD, List.getElem?_eq_getElem h]
  rfl)
theorem between_int {d : PD} {lo hi : Int} (h : isBetween d lo hi = true) : d = .int (intD d) ∧ lo ≤ intD d ∧ intD d ≤ hi := by
  cases d <;> first | cases h | skip
  simp [isBetween] at h
  exact ⟨rfl, h.1, h.2⟩
section
variable {X : Cx} {A : As} {G0 H0 : Hp} {R : Sl → Prop} {N : As} {c a e : Expr} {rest body : List Stmt} {pos p : Pos} {b : Bool} {ρ : List Sl} {M : Mx}
theorem ss_ifB (hc : TD X A c b) (h1 : b = true → Ss X G0 H0 A body bot R) (h2 : b = false → Ss X G0 H0 A rest N R) : Ss X G0 H0 A (.If c body [] pos :: rest) N R := by
  cases b with
  | true => exact ss_ifR hc (h1 rfl)
  | false => exact ss_ifN hc (h2 rfl)
/-- d[i], i a written number -/
theorem w_it {d : PD} (i : Nat) {j pos'} (h : WD X A a d) (ht : isTup d = true) (hi : i < (its d).length) : WD X A (.Subscript a (.Constant (.int (i : Int)) j pos') pos) (it d i) :=
  w_ix h w_int (seq_of ht) (atI_getD hi)
theorem w_itV {d : PD} {b : Expr} (i : Nat) (h : WD X A a d) (hb : WD X A b (.int (i : Int))) (ht : isTup d = true) (hi : i < (its d).length) (hs : PlainIx b := by exact fun _ _ => rfl) : WD X A (.Subscript a b pos) (it d i) :=
  w_ix h hb (seq_of ht) (atI_getD hi) hs
theorem w_lenD {d : PD} (h : WD X A e d) (ht : isTup d = true) (hm : X.mg "len" = none) (hg : Gl X "len" := by rfl) (he : starEach [e] X.env = (false, eval e X.env) :: starEach [] X.env := by rfl) : WD X A (.Call (.Name "len" p) [e] [] pos) (.int (its d).length) := w_len h (seq_of ht) hm hg he
/-- isinstance(a, tuple) -/
theorem w_isTup {d : PD} {pt : Pos} (h : WD X A a d) (hi : X.mg "isinstance" = none) (ht : X.mg "tuple" = none) (hg : Gl X "isinstance" := by rfl) (hgt : Gl X "tuple" := by rfl)
    (h1 : starEach [a, .Name "tuple" pt] X.env = (false, eval a X.env) :: starEach [.Name "tuple" pt] X.env := by rfl) (h2 : starEach [.Name "tuple" pt] X.env = (false, eval (.Name "tuple" pt) X.env) :: starEach [] X.env := by rfl) (hpl : (backTo pos (starEach [.Name "tuple" pt] X.env)).any (·.1) = false := by rfl) :
    WD X A (.Call (.Name "isinstance" p) [a, .Name "tuple" pt] [] pos) (.bool (isTup d)) := w_isi h (w_ty (T := "tuple") ht (by decide +kernel) hgt) (kit_tup d) hi hg h1 h2 hpl
end
theorem nb {b : Bool} (h : (!b) = false) : b = true := by cases b <;> first | rfl | cases h
theorem dlen {n m : Nat} (h : (!decide ((n : Int) = (m : Int))) = false) : n = m := by
  have := of_decide_eq_true (nb h)
  omega

/-! ### is_range -/
def isRange (d : PD) (w : Int) : Bool :=
  if (!isTup d || (!decide (((its d).length : Int) = 2) || !isBetween (it d 0) 0 (w - 1))) = true then false else isBetween (it d 1) (intD (it d 0)) (w - 1)
def FRange (ss : List Sl) (S : Sl → Prop) : Prop := ∃ d w, ss = [.da d, .da (.int w)] ∧ S = Eq (.da (.bool (isRange d w)))
abbrev sRange : Stmt := topS 10
theorem scRange : FnScope ["value", "width"] ["value", "width"] (defScope sRange) := ⟨rfl, rfl, rfl, by decide +kernel, rfl, by decide +kernel, by decide +kernel⟩
section
variable {P : Program} {w : World} {K : PySem.W.Frag} {mg : Str → Option Value} {base : Heap} {f : Addr} {fd : FuncData} {k : Nat}
theorem d_range (T : Txt K mg) (D1 : Def P w K mg base CX0 1 "is_between" ["value", "low", "high"] (spF FBetween)) (Fn : Fun K "is_range" "is_range" sRange f fd) (hm : mg "is_range" = some (.ref f)) (hb : Binds K fd ["value", "width"] []) : Def P w K mg base CX0 2 "is_range" ["value", "width"] (spF FRange) := by
  refine def_of Fn hm hb scRange (by rintro _ _ ⟨d, w, rfl, rfl⟩; rfl) (fun cdv A outer s H E hr => ?_)
  rintro _ _ ⟨d, w, rfl, rfl⟩ G0 H0
  refine ss_ifB (t_w (tw_or (t_not (t_val (w_isTup (w_var 0) T.isi T.tuple))) fun h1 => tw_or (t_cmp cmp_neI (w_lenD (w_var 0) (nb h1) T.len) w_int) fun h2 =>
    tw_or1 (t_not (t_val (w_call D1 hr (ws_cons (w_it 0 (w_var 0) (nb h1) (by have := dlen (m := 2) h2; omega)) (ws_cons w_int (ws_cons (w_sub (w_var 1) w_int) ws_nil))) ⟨_, _, _, rfl, rfl⟩))))) (fun h => ss_ret w_bl ?_) (fun h => ?_)
  · rintro _ rfl
    simp only [isRange, h, if_true]
  · have h' := h
    simp only [Bool.or_eq_false_iff] at h
    obtain ⟨h1, h2, h3⟩ := h
    have h2 := dlen (m := 2) h2
    obtain ⟨e1, e2, e3⟩ := between_int (nb h3)
    refine ss_ret (w_call D1 hr (ws_cons (w_it 1 (w_var 0) (nb h1) (by omega)) (ws_cons ((w_it 0 (w_var 0) (nb h1) (by omega)).to e1) (ws_cons (w_sub (w_var 1) w_int) ws_nil))) ⟨_, _, _, rfl, rfl⟩) ?_
    rintro _ rfl
    simp only [isRange, h', Bool.false_eq_true, if_false]
end

/-! ### is_rule -/
def isRule (d : PD) (ws : List Int) : Bool :=
  if (!isTup d || (!decide (((its d).length : Int) = 2) || !isBetween (it d 0) 0 5)) = true then false else
  if (!isTup (it d 1) || !decide (((its (it d 1)).length : Int) = (ws.length : Int))) = true then false else
  ws.zipIdx.all fun p => isRange (it (it d 1) p.2) p.1
def FRule (ss : List Sl) (S : Sl → Prop) : Prop := ∃ d ws, ws.length ≤ 1000 ∧ ss = [.da d, .da (.tuple (ws.map .int))] ∧ S = Eq (.da (.bool (isRule d ws)))
abbrev sRule : Stmt := topS 11
theorem scRule : FnScope ["value", "widths", "at", "width"] ["value", "widths"] (defScope sRule) := ⟨rfl, rfl, rfl, by decide +kernel, rfl, by decide +kernel, by decide +kernel⟩
def encP (p : Int × Nat) : PD := .tuple [.int (p.2 : Nat), .int p.1]
theorem encP_inj (a b : Int × Nat) (h : encP a = encP b) : a = b := by
  unfold encP at h
  injection h with h
  injection h with h1 h2
  injection h1 with h1
  injection h2 with h2 _
  injection h2 with h2
  obtain ⟨a1, a2⟩ := a
  obtain ⟨b1, b2⟩ := b
  simp at h1 h2
  have h3 : a2 = b2 := by omega
  rw [h3, h2]
theorem enumD_ints (ws : List Int) : enumD (ws.map .int) = ws.zipIdx.map encP := by
  unfold enumD
  rw [List.zipIdx_map, List.map_map]
  rfl
theorem zipIdx_at {α : Type} {l : List α} {p : α × Nat} (h : p ∈ l.zipIdx) : l[p.2]? = some p.1 := by
  obtain ⟨a, i⟩ := p
  rw [List.mem_zipIdx_iff_getElem?] at h
  exact h
section
variable {P : Program} {w : World} {K : PySem.W.Frag} {mg : Str → Option Value} {base : Heap} {f : Addr} {fd : FuncData} {k : Nat}
theorem d_rule (T : Txt K mg) (D1 : Def P w K mg base CX0 1 "is_between" ["value", "low", "high"] (spF FBetween)) (D2 : Def P w K mg base CX0 2 "is_range" ["value", "width"] (spF FRange)) (Fn : Fun K "is_rule" "is_rule" sRule f fd) (hm : mg "is_rule" = some (.ref f)) (hb : Binds K fd ["value", "widths"] []) : Def P w K mg base CX0 3 "is_rule" ["value", "widths"] (spF FRule) := by
  refine def_of Fn hm hb scRule (by rintro _ _ ⟨d, w, _, rfl, rfl⟩; rfl) (fun cdv A outer s H E hr => ?_)
  rintro _ _ ⟨d, ws, hws, rfl, rfl⟩ G0 H0
  obtain ⟨tA, hA⟩ := T.lA
  refine ss_ifB (t_w (tw_or (t_not (t_val (w_isTup (w_var 0) T.isi T.tuple))) fun h1 => tw_or (t_cmp cmp_neI (w_lenD (w_var 0) (nb h1) T.len) w_int) fun h2 =>
    tw_or1 (t_not (t_val (w_call D1 (hr.mono (by decide)) (ws_cons (w_it 0 (w_var 0) (nb h1) (by have := dlen (m := 2) h2; omega)) (ws_cons w_int (ws_cons (w_globI hA) ws_nil))) ⟨_, _, _, rfl, rfl⟩))))) (fun h => ss_ret w_bl ?_) (fun h => ?_)
  · rintro _ rfl
    simp only [isRule, h, if_true]
  · have h' := h
    simp only [Bool.or_eq_false_iff] at h
    obtain ⟨h1, h2, h3⟩ := h
    have h2 := dlen (m := 2) h2
    refine ss_ifB (t_w (tw_or (t_not (t_val (w_isTup (w_it 1 (w_var 0) (nb h1) (by omega)) T.isi T.tuple))) fun h4 => tw_or1 (t_cmp cmp_neI (w_lenD (w_it 1 (w_var 0) (nb h1) (by omega)) (nb h4) T.len) ((w_lenT (w_var 1) T.len).to (by rw [List.length_map]))))) (fun h => ss_ret w_bl ?_) (fun h => ?_)
    · rintro _ rfl
      simp only [isRule, h', h, if_true, Bool.false_eq_true, if_false]
    · have h'' := h
      simp only [Bool.or_eq_false_iff] at h
      obtain ⟨h4, h5⟩ := h
      have h5 := dlen h5
      refine ss_ret (w_allF rfl (w_lc0 (own := [("at", 2), ("width", 3)]) ws.zipIdx encP (fun p => aT G0 H0 [.da d, .da (.tuple (ws.map .int)), .da (.int (p.2 : Nat)), .da (.int p.1)] M0) (fun p => .bool (isRange (it (it d 1) p.2) p.1)) rfl scRule.nd ((wi_enumT (w_var 1) T.enum).to (enumD_ints ws)) (blkOk_by (own := [("at", 2), ("width", 3)]) (N := ["value", "widths", "at", "width"]) (sc := defScope sRule) (by decide +kernel))
          (fun _ _ _ _ _ => pg_tup rfl (pgs_cons (pg_name (i := 2) scRule.nd rfl (Or.inl rfl)) (pgs_cons (pg_name (i := 3) scRule.nd rfl (Or.inl rfl)) pgs_nil))) (fun a _ => gt_two 2 3 (by decide)) (fun p hp s H C cl fp => ?_) encP_inj (by rw [List.length_zipIdx]; omega)) T.all) ?_
      · have hlt := (List.getElem?_eq_some_iff.mp (zipIdx_at hp)).1
        exact w_call D2 hr (ws_cons (w_itV p.2 (w_it 1 (w_var 0) (nb h1) (by omega)) (w_var 2) (nb h4) (by omega)) (ws_cons (w_var 3) ws_nil)) ⟨_, _, rfl, rfl⟩
      · rintro _ rfl
        simp only [isRule, h', h'', Bool.false_eq_true, if_false]
end

/-! ### is_list -/
def widsD (d : PD) : List Int := (its d).map intD
theorem widths_tup {d : PD} (h : isWidths d = true) : isTup d = true ∧ 1 ≤ (its d).length ∧ (its d).length ≤ 3 ∧ ∀ e ∈ its d, isBetween e 1 8 = true := by
  cases d <;> first | cases h | skip
  simp only [isWidths, Bool.and_eq_true, decide_eq_true_eq, List.all_eq_true] at h
  exact ⟨rfl, h.1.1, h.1.2, h.2⟩
theorem widths_eq {d : PD} (h : isWidths d = true) : d = .tuple ((widsD d).map .int) := by
  obtain ⟨h1, _, _, h2⟩ := widths_tup h
  have e : (widsD d).map PyData.int = its d := by
    unfold widsD
    rw [List.map_map]
    have : ∀ l : List PD, (∀ e ∈ l, isBetween e 1 8 = true) → l.map (PyData.int ∘ intD) = l := by
      intro l
      induction l with
      | nil => intro _; rfl
      | cons a l ih =>
        intro hl
        rw [List.map_cons, ih fun e he => hl e (List.mem_cons_of_mem _ he)]
        have := (between_int (hl a List.mem_cons_self)).1
        show PyData.int (intD a) :: l = a :: l
        rw [← this]
    exact this _ h2
  rw [e]
  exact tup_of h1
def isListD (d : PD) : Bool :=
  if (!isTup d || (!decide (((its d).length : Int) = 3) || !isWidths (it d 0))) = true then false else
  if (!isTup (it d 1) || (decide ((7 : Int) < ((its (it d 1)).length : Int)) || !isBetween (it d 2) 0 5)) = true then false else
  (its (it d 1)).all fun r => isRule r (widsD (it d 0))
def FList (ss : List Sl) (S : Sl → Prop) : Prop := ∃ d, ss = [.da d] ∧ S = Eq (.da (.bool (isListD d)))
abbrev sIsList : Stmt := topS 12
theorem scIsList : FnScope ["value", "rule"] ["value"] (defScope sIsList) := ⟨rfl, rfl, rfl, by decide +kernel, rfl, by decide +kernel, by decide +kernel⟩
section
variable {P : Program} {w : World} {K : PySem.W.Frag} {mg : Str → Option Value} {base : Heap} {f : Addr} {fd : FuncData} {k : Nat}
theorem d_list (T : Txt K mg) (D1 : Def P w K mg base CX0 1 "is_between" ["value", "low", "high"] (spF FBetween)) (D2 : Def P w K mg base CX0 2 "is_widths" ["value"] (spF FWidths)) (D3 : Def P w K mg base CX0 3 "is_rule" ["value", "widths"] (spF FRule)) (Fn : Fun K "is_list" "is_list" sIsList f fd) (hm : mg "is_list" = some (.ref f)) (hb : Binds K fd ["value"] []) : Def P w K mg base CX0 4 "is_list" ["value"] (spF FList) := by
  refine def_of Fn hm hb scIsList (by rintro _ _ ⟨d, rfl, rfl⟩; rfl) (fun cdv A outer s H E hr => ?_)
  rintro _ _ ⟨d, rfl, rfl⟩ G0 H0
  obtain ⟨tA, hA⟩ := T.lA
  obtain ⟨tR, hR⟩ := T.mR
  refine ss_ifB (t_w (tw_or (t_not (t_val (w_isTup (w_var 0) T.isi T.tuple))) fun h1 => tw_or (t_cmp cmp_neI (w_lenD (w_var 0) (nb h1) T.len) w_int) fun h2 =>
    tw_or1 (t_not (t_val (w_call D2 (hr.mono (by decide)) (ws_cons (w_it 0 (w_var 0) (nb h1) (by have := dlen (m := 3) h2; omega)) ws_nil) ⟨_, rfl, rfl⟩))))) (fun h => ss_ret w_bl ?_) (fun h => ?_)
  · rintro _ rfl
    simp only [isListD, h, if_true]
  · have h' := h
    simp only [Bool.or_eq_false_iff] at h
    obtain ⟨h1, h2, h3⟩ := h
    have h2 := dlen (m := 3) h2
    have hw := widths_eq (nb h3)
    have hwl := widths_tup (nb h3)
    refine ss_ifB (t_w (tw_or (t_not (t_val (w_isTup (w_it 1 (w_var 0) (nb h1) (by omega)) T.isi T.tuple))) fun h4 => tw_or (t_cmp cmp_gt (w_lenD (w_it 1 (w_var 0) (nb h1) (by omega)) (nb h4) T.len) (w_globI hR)) fun h5 =>
      tw_or1 (t_not (t_val (w_call D1 (hr.mono (by decide)) (ws_cons (w_it 2 (w_var 0) (nb h1) (by omega)) (ws_cons w_int (ws_cons (w_globI hA) ws_nil))) ⟨_, _, _, rfl, rfl⟩))))) (fun h => ss_ret w_bl ?_) (fun h => ?_)
    · rintro _ rfl
      simp only [isListD, h', h, if_true, Bool.false_eq_true, if_false]
    · have h'' := h
      simp only [Bool.or_eq_false_iff] at h
      obtain ⟨h4, h5, h6⟩ := h
      have h5 := of_decide_eq_false h5
      have e4 := tup_of (nb h4)
      refine ss_ret (w_allF rfl (w_lc0 (own := [("rule", 1)]) (its (it d 1)) id (fun r => aT G0 H0 [.da d, .da r] M0) (fun r => .bool (isRule r (widsD (it d 0)))) rfl scIsList.nd ((wi_tup ((w_it 1 (w_var 0) (nb h1) (by omega)).to e4)).to (map_id' _)) (blkOk_by (own := [("rule", 1)]) (N := ["value", "rule"]) (sc := defScope sIsList) (by decide +kernel))
          (fun _ _ _ _ _ => pg_name (i := 1) scIsList.nd rfl (Or.inl rfl)) (fun a _ => gt_name 1) (fun r hr' s H C cl fp => ?_) id_inj (by omega)) T.all) ?_
      · exact w_call D3 hr (ws_cons (w_var 1) (ws_cons ((w_it 0 (w_var 0) (nb h1) (by omega)).to hw) ws_nil)) ⟨_, _, by unfold widsD; rw [List.length_map]; omega, rfl, rfl⟩
      · rintro _ rfl
        simp only [isListD, h', h'', Bool.false_eq_true, if_false]
end
end Fc
/-! FcG: comprehensions with two clauses; lists as they are meant; cases, sets. -/
namespace Fc
open PySem PySem.Spec PyProof.Rows L2
open Evl (Ex)
/-! ### name = [e for a in xs for b in ys] -/
section
variable {α β : Type} (l1 : List α) (l2 : α → List β) (enc1 : α → PD) (enc2 : β → PD) (r : α → β → PD) (G0 H0 : Hp) (ρ : List Sl) (M : Mx) (vs vs1 : List Nat) (j j1 : Nat)
def A1 (a : α) : As := aT G0 H0 ((wipeS ρ vs).set j (.da (enc1 a))) M
def A2 (a : α) (b : β) : As := aT G0 H0 ((wipeS ((wipeS ρ vs).set j (.da (enc1 a))) vs1).set j1 (.da (enc2 b))) M
def tLc2I : TI := fun σ H R => ∃ a : { a // a ∈ l1 }, tI (A1 enc1 G0 H0 ρ M vs j a.1) (Eq ((l2 a.1).map enc2)) σ H R
def tLc2E : TE := fun σ H Q => ∃ z : { z : α × β // z.1 ∈ l1 ∧ z.2 ∈ l2 z.1 }, tW (A2 enc1 enc2 G0 H0 ρ M vs vs1 j j1 z.1.1 z.1.2) (Eq (.da (r z.1.1 z.1.2))) σ H Q
def tAny : TT := fun _ H Q => Q true H
variable {l1 l2 enc1 enc2 r G0 H0 ρ M vs vs1 j j1}
theorem lc2_read (hz1 : l1.length ≤ 300) (hz2 : ∀ a, (l2 a).length ≤ 300) (hw1 : ∀ (σ : L2.St) v, wipe (σ.set j v) vs = wipe σ vs) (hw2 : ∀ (σ : L2.St) v, wipe (σ.set j1 v) vs1 = wipe σ vs1)
    {σ : L2.St} {G H : Hp} {Q : VK} (ex : Ex G H) (as : (aT G0 H0 ρ M).p σ G H) (q : ∀ v G' H', Nx G H G' H' → Dd G' v (.list (l1.flatMap fun a => (l2 a).map (r a))) → Q v H') :
    tLc2 (tI (aT G0 H0 ρ M) (Eq (l1.map enc1))) (gName j) tAny (tLc2I l1 l2 enc1 enc2 G0 H0 ρ M vs j) (gName j1) tAny (tLc2E l1 l2 enc1 enc2 r G0 H0 ρ M vs vs1 j j1) vs vs1 σ H Q := by
  refine ⟨G, ex, as, fun items J G1 H1 hL n1 ok D hD => ?_⟩
  subst hL
  have hG1 : G1 D = none := free_of n1.s hD
  have lenT : ∀ (l : List α), (l.flatMap fun a => (l2 a).map (r a)).length ≤ l.length * 300 := by
    intro l
    induction l with
    | nil => exact Nat.le_refl _
    | cons a l ih =>
      rw [List.flatMap_cons, List.length_append, List.length_map, List.length_cons]
      have := hz2 a
      omega
  refine ⟨fun i m H' => m = l1.length - i ∧ i ≤ l1.length ∧ ∃ G' acc, Nx G1 H1 G' H' ∧ G' D = none ∧ H' D = some (.lst acc) ∧ DdAll G' acc ((l1.take i).flatMap fun a => (l2 a).map (r a)), ⟨_, rfl, Nat.zero_le _, G1, [], Nx.mut (Nx.refl n1.s) hD hG1, hG1, upd_same, .nil⟩, ?_⟩
  rintro i m H' ⟨rfl, hi, G', acc, n, hGD, hHD, hacc⟩
  by_cases hlt : i < l1.length
  · have hlt' : i < (l1.map enc1).length := by rw [List.length_map]; exact hlt
    refine .inr ⟨ok.goes i H' hlt' ⟨G', n.g, n.s⟩, fun H' => ∃ G' acc, Nx G1 H1 G' H' ∧ G' D = none ∧ H' D = some (.lst acc) ∧ DdAll G' acc ((l1.take (i + 1)).flatMap fun a => (l2 a).map (r a)), ?_, ?_⟩
    · rintro H2 h2
      exact ⟨_, by omega, rfl, hlt, h2⟩
    · rintro x H'' hy
      obtain ⟨G2, d, n2, hd, dx⟩ := ok.yields i H' x H'' hlt' ⟨G', n.g, n.s⟩ hy G' n.g n.s
      have ha : l1[i]? = some l1[i] := List.getElem?_eq_getElem hlt
      have ed : d = enc1 l1[i] := by
        rw [List.getElem?_map, ha] at hd
        exact (Option.some.inj hd).symm
      subst ed
      have hmem : l1[i] ∈ l1 := List.getElem_mem hlt
      generalize l1[i] = a at *
      have htake : l1.take (i + 1) = l1.take i ++ [a] := by
        obtain ⟨h1, e⟩ := List.getElem?_eq_some_iff.mp ha
        rw [← e]
        exact (List.take_append_getElem h1).symm
      have hrel1 : Rel G2 ((wipeS ρ vs).set j (.da (enc1 a))) ((wipe σ vs).set j (some x)) := Rel.set (s := .da (enc1 a)) dx j (Rel.up ((n1.g.trans n.g).trans n2.g) (as.2.1.wipe vs))
      refine ⟨by rw [hw1, wipe_wipe], ?_⟩
      simp only [tAny, if_true]
      refine ⟨⟨a, hmem⟩, G2, n2.s, ⟨as.1.trans ((n1.trans n).trans n2), hrel1, M.m ((n1.trans n).trans n2) as.2.2⟩, fun items2 J1 G3 H3 e3 n3 ok1 => ?_⟩
      subst e3
      have n123 := (n.trans n2).trans n3
      refine ⟨fun i2 m H4 => m = (l2 a).length - i2 ∧ i2 ≤ (l2 a).length ∧ ∃ G4 acc, Ex G3 G4 ∧ Nx G1 H1 G4 H4 ∧ G4 D = none ∧ H4 D = some (.lst acc) ∧ DdAll G4 acc (((l1.take i).flatMap fun a => (l2 a).map (r a)) ++ ((l2 a).take i2).map (r a)),
        ⟨_, rfl, Nat.zero_le _, G3, acc, Ex.refl G3, n123, (n2.trans n3).nl hGD hHD, (n2.trans n3).h _ _ hHD, by rw [List.take_zero, List.map_nil, List.append_nil]; exact hacc.up (n2.trans n3).g⟩, ?_⟩
      rintro i2 m H4 ⟨rfl, hi2, G4, acc4, e34, n4, hGD4, hHD4, hacc4⟩
      by_cases hlt2 : i2 < (l2 a).length
      · have hlt2' : i2 < ((l2 a).map enc2).length := by rw [List.length_map]; exact hlt2
        refine .inr ⟨ok1.goes i2 H4 hlt2' ⟨G4, e34, n4.s⟩, fun H4 => ∃ G4 acc, Ex G3 G4 ∧ Nx G1 H1 G4 H4 ∧ G4 D = none ∧ H4 D = some (.lst acc) ∧ DdAll G4 acc (((l1.take i).flatMap fun a => (l2 a).map (r a)) ++ ((l2 a).take (i2 + 1)).map (r a)), ?_, ?_⟩
        · rintro H5 h5
          exact ⟨_, by omega, rfl, hlt2, h5⟩
        · rintro x2 H5 hy2
          obtain ⟨G5, d2, n5, hd2, dx2⟩ := ok1.yields i2 H4 x2 H5 hlt2' ⟨G4, e34, n4.s⟩ hy2 G4 e34 n4.s
          have hb : (l2 a)[i2]? = some (l2 a)[i2] := List.getElem?_eq_getElem hlt2
          have ed2 : d2 = enc2 (l2 a)[i2] := by
            rw [List.getElem?_map, hb] at hd2
            exact (Option.some.inj hd2).symm
          subst ed2
          have hmem2 : (l2 a)[i2] ∈ l2 a := List.getElem_mem hlt2
          generalize (l2 a)[i2] = b at *
          have htake2 : (l2 a).take (i2 + 1) = (l2 a).take i2 ++ [b] := by
            obtain ⟨h1, e⟩ := List.getElem?_eq_some_iff.mp hb
            rw [← e]
            exact (List.take_append_getElem h1).symm
          have hrel2 : Rel G5 ((wipeS ((wipeS ρ vs).set j (.da (enc1 a))) vs1).set j1 (.da (enc2 b))) ((wipe ((wipe σ vs).set j (some x)) vs1).set j1 (some x2)) :=
            Rel.set (s := .da (enc2 b)) dx2 j1 ((Rel.up ((n3.g.trans e34).trans n5.g) hrel1).wipe vs1)
          refine ⟨by rw [hw2, wipe_wipe], ?_⟩
          simp only [tAny, if_true]
          refine ⟨⟨(a, b), hmem, hmem2⟩, G5, n5.s, ⟨as.1.trans ((n1.trans n4).trans n5), hrel2, M.m ((n1.trans n4).trans n5) as.2.2⟩, ?_⟩
          rintro _ y G6 H6 rfl n6 dy
          have n56 := n5.trans n6
          have hG6 : G6 D = none := n56.nl hGD4 hHD4
          refine ⟨acc4, n56.h _ _ hHD4, ?_, G6, acc4 ++ [y], e34.trans n56.g, Nx.mut (n4.trans n56) hD hG6, hG6, upd_same, ?_⟩
          · rw [hacc4.length, List.length_append, List.length_map, List.length_take, sizeLine_eq]
            have h1 := lenT (l1.take i)
            rw [List.length_take] at h1
            have h2 := hz2 a
            have h3 : min i l1.length * 300 ≤ 300 * 300 := Nat.mul_le_mul (by omega) (Nat.le_refl _)
            omega
          · rw [htake2, List.map_append, ← List.append_assoc]
            exact (hacc4.up n56.g).append (DdAll.one dy)
      · have e2 : i2 = (l2 a).length := by omega
        subst e2
        refine .inl ⟨?_, G4, acc4, n4, hGD4, hHD4, ?_⟩
        · have := ok1.stops H4 ⟨G4, e34, n4.s⟩
          rw [List.length_map] at this
          exact this
        · rw [htake, List.flatMap_append, List.flatMap_singleton]
          rw [List.take_length] at hacc4
          exact hacc4
  · have e : i = l1.length := by omega
    subst e
    refine .inl ⟨?_, ?_⟩
    · have := ok.stops H' ⟨G', n.g, n.s⟩
      rw [List.length_map] at this
      exact this
    · rw [List.take_length] at hacc
      exact q (.ref D) (upd G' D (.lst acc)) H' (n1.trans (Nx.add n hD hGD hHD)) (Dd.lst upd_same (hacc.up (Ex.new hGD)))
end
section
variable {X : Cx} {G0 H0 : Hp} {N : As} {R : Sl → Prop} {ρ : List Sl} {M : Mx} {rest : List Stmt} {elt it it1 : Expr} {scope : Scope} {own : List (Str × Nat)} {pos spos py pa pb : Pos} {y x x1 : Str} {α β : Type}
theorem ss_setLc2 (i j j1 : Nat) (l1 : List α) (l2 : α → List β) (enc1 : α → PD) (enc2 : β → PD) (r : α → β → PD) (hc : X.calm = true) (hN : X.N.Nodup) (hy : X.N[i]? = some y) (hyl : X.env.scope.names.lookup y = some .local)
    (hsw : swapsWith (.ListComp elt [⟨.Name x pa, it, [], 0⟩, ⟨.Name x1 pb, it1, [], 0⟩] scope pos) (some (.Name y py)) spos.line X.env = pure true) (hi : Wi X (aT G0 H0 ρ M) (.Name x pa) it (Eq (l1.map enc1))) (ok : BlkOk X.N X.env.scope scope own) (hj1 : j1 ∈ own.map (·.2)) (hj : j ∈ own.map (·.2))
    (hg : ∀ (s : Shared) (H : Hp) (C : Addr) (cl : List (Str × Addr)) (fp : List Addr), PG (X.blk s H scope (compEnvC scope cl C X.env) fp) (.Name x pa) (gName j))
    (hi1 : ∀ a ∈ l1, ∀ (s : Shared) (H : Hp) (C : Addr) (cl : List (Str × Addr)) (fp : List Addr), Wi (X.blk s H scope (compEnvC scope cl C X.env) fp) (A1 enc1 G0 H0 ρ M (own.map (·.2)) j a) (.Name x1 pb) it1 (Eq ((l2 a).map enc2)))
    (hg1 : ∀ (s : Shared) (H : Hp) (C : Addr) (cl : List (Str × Addr)) (fp : List Addr), PG (X.blk s H scope (compEnvC scope cl C X.env) fp) (.Name x1 pb) (gName j1))
    (he : ∀ a ∈ l1, ∀ b ∈ l2 a, ∀ (s : Shared) (H : Hp) (C : Addr) (cl : List (Str × Addr)) (fp : List Addr), WD (X.blk s H scope (compEnvC scope cl C X.env) fp) (A2 enc1 enc2 G0 H0 ρ M (own.map (·.2)) [j1] j j1 a b) elt (r a b))
    (hz1 : l1.length ≤ 300) (hz2 : ∀ a, (l2 a).length ≤ 300) (hw1 : ∀ (σ : L2.St) v, wipe (σ.set j v) (own.map (·.2)) = wipe σ (own.map (·.2)))
    (k : Ss X G0 H0 (aT G0 H0 (ρ.set i (.da (.list (l1.flatMap fun a => (l2 a).map (r a))))) M) rest N R) (hs : ∀ x, foldedSetIterable it X.env x = pure x := by intro _; rfl) (hs1 : ∀ env x, foldedSetIterable it1 env x = pure x := by intro _ _; rfl) :
    Ss X G0 H0 (aT G0 H0 ρ M) (.Assign [.Name y py] (.ListComp elt [⟨.Name x pa, it, [], 0⟩, ⟨.Name x1 pb, it1, [], 0⟩] scope pos) spos :: rest) N R := by
  have he' : ∀ (s : Shared) (H : Hp) (C : Addr) (cl : List (Str × Addr)) (fp : List Addr), PE (X.blk s H scope (compEnvC scope cl C X.env) fp) elt (tLc2E l1 l2 enc1 enc2 r G0 H0 ρ M (own.map (·.2)) [j1] j j1) :=
    fun s H C cl fp => ⟨fun pins s' σ H' Q I ⟨z, q⟩ => (he z.1.1 z.2.1 z.1.2 z.2.2 s H C cl fp).run pins s' σ H' Q I q⟩
  refine PSs.wk (pss_cons (ps_setLc2 (i := i) (vs1 := [j1]) (g := gName j) (g1 := gName j1) (tt := tAny) (tt1 := tAny) (wi1 := tLc2I l1 l2 enc1 enc2 G0 H0 ρ M (own.map (·.2)) j) (te := tLc2E l1 l2 enc1 enc2 r G0 H0 ρ M (own.map (·.2)) [j1] j j1) hc hN hy hyl hsw hi ok (by intro z hz; rw [List.mem_singleton.mp hz]; exact hj1) hg (fun _ _ _ _ _ => pts_nil)
    (fun s H C cl fp => ⟨fun pins s' σ H' Q I ⟨a, q⟩ => (hi1 a.1 a.2 s H C cl fp).run pins s' σ H' Q I q⟩) hg1 (fun _ _ _ _ _ => pts_nil)
    he' hs hs1) k) ?_
  rintro D σ H ⟨G, s, as, q1, q2⟩
  show tLc2 _ _ _ _ _ _ _ _ _ σ H (fun x H1 => gName i x σ H1 _)
  refine lc2_read hz1 hz2 hw1 (fun σ v => ?_) s as fun v G' H' n dv => ?_
  · show (σ.set j1 v).set j1 none = σ.set j1 none
    rw [List.set_set]
  · exact ⟨G', n.s, ⟨as.1.trans n, Rel.set (s := .da _) dv i (as.2.1.up n.g), M.m n as.2.2⟩, fun σ'' G'' H'' e'' => q1 σ'' G'' H'' (n.g.trans e''), q2⟩
end
end Fc
/-! FcH: lists as they are meant; cases, numbers, sets, what matches, what fits. -/
namespace Fc
open PySem PySem.Spec PyProof.Rows L2
open Evl (Ex)
structure Rl where
  act : Int
  rs : List (Int × Int)
structure Li where
  ws : List Int
  rules : List Rl
  rest : Int
def encG (p : Int × Int) : PD := .tuple [.int p.1, .int p.2]
def encR (r : Rl) : PD := .tuple [.int r.act, .tuple (r.rs.map encG)]
def encL (L : Li) : PD := .tuple [.tuple (L.ws.map .int), .tuple (L.rules.map encR), .int L.rest]
def encC (c : List Int) : PD := .tuple (c.map .int)
def natD (n : Nat) : PD := .int (n : Int)
def encS (S : List Nat) : PD := .tuple (S.map natD)
theorem natD_inj (a b : Nat) (h : natD a = natD b) : a = b := by
  unfold natD at h
  injection h with h
  omega
theorem ints_inj : ∀ {a b : List Int}, a.map PyData.int = b.map PyData.int → a = b
  | [], [], _ => rfl
  | x :: a, y :: b, h => by
    rw [List.map_cons, List.map_cons] at h
    injection h with h1 h2
    injection h1 with h1
    rw [h1, ints_inj h2]
  | [], _ :: _, h => by cases h
  | _ :: _, [], h => by cases h
theorem encC_inj (a b : List Int) (h : encC a = encC b) : a = b := by
  unfold encC at h
  injection h with h
  exact ints_inj h
structure OkR (ws : List Int) (r : Rl) : Prop where
  a0 : 0 ≤ r.act
  a5 : r.act ≤ 5
  len : r.rs.length = ws.length
  rng : ∀ (i : Nat) (p : Int × Int) (w : Int), r.rs[i]? = some p → ws[i]? = some w → 0 ≤ p.1 ∧ p.1 ≤ p.2 ∧ p.2 ≤ w - 1
structure OkL (L : Li) : Prop where
  w1 : 1 ≤ L.ws.length
  w3 : L.ws.length ≤ 3
  wv : ∀ w ∈ L.ws, 1 ≤ w ∧ w ≤ 8
  r7 : L.rules.length ≤ 7
  rv : ∀ r ∈ L.rules, OkR L.ws r
  b0 : 0 ≤ L.rest
  b5 : L.rest ≤ 5
theorem between_t {i lo hi : Int} (h1 : lo ≤ i) (h2 : i ≤ hi) : isBetween (.int i) lo hi = true := by simp [isBetween, h1, h2]
theorem isRange_ok {p : Int × Int} {w : Int} (h0 : 0 ≤ p.1) (h1 : p.1 ≤ p.2) (h2 : p.2 ≤ w - 1) : isRange (encG p) w = true := by
  have e0 : isBetween (.int p.1) 0 (w - 1) = true := between_t h0 (by omega)
  have e1 : isBetween (.int p.2) p.1 (w - 1) = true := between_t h1 h2
  simp [isRange, encG, isTup, its, it, intD, e0, e1]
theorem isWidths_ok {L : Li} (h : OkL L) : isWidths (.tuple (L.ws.map .int)) = true := by
  simp only [isWidths, List.length_map, Bool.and_eq_true, decide_eq_true_eq, List.all_eq_true]
  refine ⟨⟨h.w1, h.w3⟩, fun d hd => ?_⟩
  obtain ⟨w, hw, rfl⟩ := List.mem_map.mp hd
  exact between_t (h.wv w hw).1 (h.wv w hw).2
theorem isRule_ok {ws : List Int} {r : Rl} (h : OkR ws r) : isRule (encR r) ws = true := by
  have e0 : isBetween (.int r.act) 0 5 = true := between_t h.a0 h.a5
  have e1 : ws.zipIdx.all (fun p => isRange (it (.tuple (r.rs.map encG)) p.2) p.1) = true := by
    rw [List.all_eq_true]
    intro p hp
    have hw := zipIdx_at hp
    have hlt : p.2 < r.rs.length := by
      rw [h.len]
      exact (List.getElem?_eq_some_iff.mp hw).1
    have hr : r.rs[p.2]? = some r.rs[p.2] := List.getElem?_eq_getElem hlt
    obtain ⟨a, b, c⟩ := h.rng p.2 _ _ hr hw
    have e : it (.tuple (r.rs.map encG)) p.2 = encG r.rs[p.2] := by
      show (r.rs.map encG).getD p.2 .none = _
      rw [List.getD_eq_getElem?_getD, List.getElem?_map, hr]
      rfl
    rw [e]
    exact isRange_ok a b c
  have t1 : (!isTup (encR r) || (!decide (((its (encR r)).length : Int) = 2) || !isBetween (it (encR r) 0) 0 5)) = false := by
    rw [show isTup (encR r) = true from rfl, decide_eq_true (show ((its (encR r)).length : Int) = 2 from rfl), show it (encR r) 0 = .int r.act from rfl, e0]
    rfl
  have t2 : (!isTup (it (encR r) 1) || !decide (((its (it (encR r) 1)).length : Int) = (ws.length : Int))) = false := by
    have e2 : ((its (it (encR r) 1)).length : Int) = (ws.length : Int) := by
      show (((r.rs.map encG).length : Nat) : Int) = _
      rw [List.length_map, h.len]
    rw [show isTup (it (encR r) 1) = true from rfl, decide_eq_true e2]
    rfl
  unfold isRule
  rw [t1, t2]
  exact e1
theorem isList_ok {L : Li} (h : OkL L) : isListD (encL L) = true := by
  have e0 := isWidths_ok h
  have e1 : isBetween (.int L.rest) 0 5 = true := between_t h.b0 h.b5
  have e2 : widsD (.tuple (L.ws.map .int)) = L.ws := by
    show (L.ws.map PyData.int).map intD = L.ws
    rw [List.map_map]
    have : (intD ∘ PyData.int) = id := rfl
    rw [this, List.map_id]
  have e3 : (L.rules.map encR).all (fun r => isRule r L.ws) = true := by
    rw [List.all_eq_true]
    intro d hd
    obtain ⟨r, hr, rfl⟩ := List.mem_map.mp hd
    exact isRule_ok (h.rv r hr)
  have e4 : ¬ (7 : Int) < ((its (it (encL L) 1)).length : Int) := by
    show ¬ (7 : Int) < (((L.rules.map encR).length : Nat) : Int)
    rw [List.length_map]
    have := h.r7
    omega
  have t1 : (!isTup (encL L) || (!decide (((its (encL L)).length : Int) = 3) || !isWidths (it (encL L) 0))) = false := by
    rw [show isTup (encL L) = true from rfl, decide_eq_true (show ((its (encL L)).length : Int) = 3 from rfl), show it (encL L) 0 = .tuple (L.ws.map .int) from rfl, e0]
    rfl
  have t2 : (!isTup (it (encL L) 1) || (decide ((7 : Int) < ((its (it (encL L) 1)).length : Int)) || !isBetween (it (encL L) 2) 0 5)) = false := by
    rw [show isTup (it (encL L) 1) = true from rfl, decide_eq_false e4, show it (encL L) 2 = .int L.rest from rfl, e1]
    rfl
  unfold isListD
  rw [t1, t2]
  show (L.rules.map encR).all (fun r => isRule r (widsD (.tuple (L.ws.map .int)))) = true
  rw [e2]
  exact e3
section
variable {X : Cx} {A : As} {a : Expr} {pos pos' : Pos} {L : Li} {j : Nat}
theorem w_L0 (h : WD X A a (encL L)) : WD X A (.Subscript a (.Constant (.int 0) j pos') pos) (.tuple (L.ws.map .int)) := w_it 0 h rfl (by show 0 < 3; decide)
theorem w_L1 (h : WD X A a (encL L)) : WD X A (.Subscript a (.Constant (.int 1) j pos') pos) (.tuple (L.rules.map encR)) := w_it 1 h rfl (by show 1 < 3; decide)
theorem w_L2 (h : WD X A a (encL L)) : WD X A (.Subscript a (.Constant (.int 2) j pos') pos) (.int L.rest) := w_it 2 h rfl (by show 2 < 3; decide)
end

/-! ### is_case -/
def isCaseD (ws : List Int) (d : PD) : Bool :=
  if (!isTup d || !decide (((its d).length : Int) = (ws.length : Int))) = true then false else ws.zipIdx.all fun p => isBetween (it d p.2) 0 (p.1 - 1)
def FCase (ss : List Sl) (S : Sl → Prop) : Prop := ∃ L d, OkL L ∧ ss = [.da (encL L), .da d] ∧ S = Eq (.da (.bool (isCaseD L.ws d)))
abbrev sIsCase : Stmt := topS 13
theorem scIsCase : FnScope ["listed", "value", "at", "width"] ["listed", "value"] (defScope sIsCase) := ⟨rfl, rfl, rfl, by decide +kernel, rfl, by decide +kernel, by decide +kernel⟩
def FNumber (ss : List Sl) (S : Sl → Prop) : Prop := ∃ L d, OkL L ∧ ss = [.da (encL L), .da d] ∧ S = Eq (.da (.bool (isBetween d 0 ((L.rules.length : Int) - 1))))
abbrev sIsNumber : Stmt := topS 14
theorem scIsNumber : FnScope ["listed", "value"] ["listed", "value"] (defScope sIsNumber) := ⟨rfl, rfl, rfl, by decide +kernel, rfl, by decide +kernel, by decide +kernel⟩
def isSetD (n : Nat) (d : PD) : Bool :=
  if (!isTup d || !((its d).all fun e => isBetween e 0 ((n : Int) - 1))) = true then false else (List.range ((its d).length - 1)).all fun i => decide (intD (it d i) < intD (it d (i + 1)))
def FSet (ss : List Sl) (S : Sl → Prop) : Prop := ∃ L d, OkL L ∧ (its d).length ≤ 1000 ∧ ss = [.da (encL L), .da d] ∧ S = Eq (.da (.bool (isSetD L.rules.length d)))
abbrev sIsSet : Stmt := topS 15
theorem scIsSet : FnScope ["listed", "value", "number", "at"] ["listed", "value"] (defScope sIsSet) := ⟨rfl, rfl, rfl, by decide +kernel, rfl, by decide +kernel, by decide +kernel⟩
section
variable {P : Program} {w : World} {K : PySem.W.Frag} {mg : Str → Option Value} {base : Heap} {f : Addr} {fd : FuncData} {k : Nat}
theorem d_case (T : Txt K mg) (D1 : Def P w K mg base CX0 1 "is_between" ["value", "low", "high"] (spF FBetween)) (Fn : Fun K "is_case" "is_case" sIsCase f fd) (hm : mg "is_case" = some (.ref f)) (hb : Binds K fd ["listed", "value"] []) : Def P w K mg base CX0 2 "is_case" ["listed", "value"] (spF FCase) := by
  refine def_of Fn hm hb scIsCase (by rintro _ _ ⟨L, d, _, rfl, rfl⟩; rfl) (fun cdv A outer s H E hr => ?_)
  rintro _ _ ⟨L, d, hL, rfl, rfl⟩ G0 H0
  refine ss_ifB (t_w (tw_or (t_not (t_val (w_isTup (w_var 1) T.isi T.tuple))) fun h1 => tw_or1 (t_cmp cmp_neI (w_lenD (w_var 1) (nb h1) T.len) ((w_lenT (w_L0 (w_var 0)) T.len).to (by rw [List.length_map]))))) (fun h => ss_ret w_bl ?_) (fun h => ?_)
  · rintro _ rfl
    simp only [isCaseD, h, if_true]
  · have h' := h
    simp only [Bool.or_eq_false_iff] at h
    obtain ⟨h1, h2⟩ := h
    have h2 := dlen h2
    refine ss_ret (w_allF rfl (w_lc0 (own := [("at", 2), ("width", 3)]) L.ws.zipIdx encP (fun p => aT G0 H0 [.da (encL L), .da d, .da (.int (p.2 : Nat)), .da (.int p.1)] M0) (fun p => .bool (isBetween (it d p.2) 0 (p.1 - 1))) rfl scIsCase.nd ((wi_enumT (w_L0 (w_var 0)) T.enum).to (enumD_ints L.ws)) (blkOk_by (own := [("at", 2), ("width", 3)]) (N := ["listed", "value", "at", "width"]) (sc := defScope sIsCase) (by decide +kernel))
          (fun _ _ _ _ _ => pg_tup rfl (pgs_cons (pg_name (i := 2) scIsCase.nd rfl (Or.inl rfl)) (pgs_cons (pg_name (i := 3) scIsCase.nd rfl (Or.inl rfl)) pgs_nil))) (fun a _ => gt_two 2 3 (by decide)) (fun p hp s H C cl fp => ?_) encP_inj (by rw [List.length_zipIdx]; have := hL.w3; omega)) T.all) ?_
    · have hlt := (List.getElem?_eq_some_iff.mp (zipIdx_at hp)).1
      exact w_call D1 hr (ws_cons (w_itV p.2 (w_var 1) (w_var 2) (nb h1) (by omega)) (ws_cons w_int (ws_cons (w_sub (w_var 3) w_int) ws_nil))) ⟨_, _, _, rfl, rfl⟩
    · rintro _ rfl
      simp only [isCaseD, h', Bool.false_eq_true, if_false]
theorem d_number (T : Txt K mg) (D1 : Def P w K mg base CX0 1 "is_between" ["value", "low", "high"] (spF FBetween)) (Fn : Fun K "is_number" "is_number" sIsNumber f fd) (hm : mg "is_number" = some (.ref f)) (hb : Binds K fd ["listed", "value"] []) : Def P w K mg base CX0 2 "is_number" ["listed", "value"] (spF FNumber) := by
  refine def_of Fn hm hb scIsNumber (by rintro _ _ ⟨L, d, _, rfl, rfl⟩; rfl) (fun cdv A outer s H E hr => ?_)
  rintro _ _ ⟨L, d, hL, rfl, rfl⟩ G0 H0
  refine ss_ret (w_call D1 hr (ws_cons (w_var 1) (ws_cons w_int (ws_cons (w_sub ((w_lenT (w_L1 (w_var 0)) T.len).to (by rw [List.length_map])) w_int) ws_nil))) ⟨_, _, _, rfl, rfl⟩) ?_
  rintro _ rfl
  rfl
theorem d_set (T : Txt K mg) (D1 : Def P w K mg base CX0 2 "is_number" ["listed", "value"] (spF FNumber)) (Fn : Fun K "is_set" "is_set" sIsSet f fd) (hm : mg "is_set" = some (.ref f)) (hb : Binds K fd ["listed", "value"] []) : Def P w K mg base CX0 3 "is_set" ["listed", "value"] (spF FSet) := by
  refine def_of Fn hm hb scIsSet (by rintro _ _ ⟨L, d, _, _, rfl, rfl⟩; rfl) (fun cdv A outer s H E hr => ?_)
  rintro _ _ ⟨L, d, hL, hz, rfl, rfl⟩ G0 H0
  refine ss_ifB (t_w (tw_or (t_not (t_val (w_isTup (w_var 1) T.isi T.tuple))) fun h1 => tw_or1 (t_not (t_val (w_allF rfl (w_lc0 (own := [("number", 2)]) (its d) id (fun e => aT G0 H0 [.da (encL L), .da d, .da e, .no] M0) (fun e => .bool (isBetween e 0 ((L.rules.length : Int) - 1))) rfl scIsSet.nd
      ((wi_tup ((w_var 1).to (tup_of (nb h1)))).to (map_id' _)) (blkOk_by (own := [("number", 2)]) (N := ["listed", "value", "number", "at"]) (sc := defScope sIsSet) (by decide +kernel)) (fun _ _ _ _ _ => pg_name (i := 2) scIsSet.nd rfl (Or.inl rfl)) (fun a _ => gt_name 2)
      (fun e he s H C cl fp => w_call D1 hr (ws_cons (w_var 0) (ws_cons (w_var 2) ws_nil)) ⟨_, _, hL, rfl, rfl⟩) id_inj (by omega)) T.all))))) (fun h => ss_ret w_bl ?_) (fun h => ?_)
  · rintro _ rfl
    simp only [isSetD, h, if_true]
  · have h' := h
    simp only [Bool.or_eq_false_iff] at h
    obtain ⟨h1, h2⟩ := h
    have h2 := nb h2
    rw [List.all_eq_true] at h2
    refine ss_ret (w_allF rfl (w_lc0 (own := [("at", 3)]) (List.range ((its d).length - 1)) natD (fun i => aT G0 H0 [.da (encL L), .da d, .no, .da (natD i)] M0) (fun i => .bool (decide (intD (it d i) < intD (it d (i + 1))))) rfl scIsSet.nd
      (((wi_rangeQ (P := Eq (((its d).length : Int) - 1)) ((w_sub (w_lenD (w_var 1) (nb h1) T.len) w_int).imp fun _ z => intS_of z) (by rintro _ rfl; omega) T.range).imp (by rintro _ ⟨_, rfl, rfl⟩; rfl)).to (by
        unfold rangeD
        have : (((its d).length : Int) - 1).toNat = (its d).length - 1 := by omega
        rw [this]
        rfl)) (blkOk_by (own := [("at", 3)]) (N := ["listed", "value", "number", "at"]) (sc := defScope sIsSet) (by decide +kernel)) (fun _ _ _ _ _ => pg_name (i := 3) scIsSet.nd rfl (Or.inl rfl)) (fun a _ => gt_name 3)
      (fun i hi s H C cl fp => ?_) natD_inj (by rw [List.length_range]; omega)) T.all) ?_
    · have hi' := List.mem_range.mp hi
      have i1 : it d i ∈ its d := by
        have : i < (its d).length := by omega
        show (its d).getD i .none ∈ _
        rw [List.getD_eq_getElem?_getD, List.getElem?_eq_getElem this]
        exact List.getElem_mem this
      have i2 : it d (i + 1) ∈ its d := by
        have : i + 1 < (its d).length := by omega
        show (its d).getD (i + 1) .none ∈ _
        rw [List.getD_eq_getElem?_getD, List.getElem?_eq_getElem this]
        exact List.getElem_mem this
      exact w_cmp cmp_lt ((w_itV i (w_var 1) (w_var 3) (nb h1) (by omega)).to (between_int (h2 _ i1)).1) ((w_itV (i + 1) (w_var 1) ((w_add (w_var 3) w_int).to (by simp)) (nb h1) (by omega)).to (between_int (h2 _ i2)).1)
    · rintro _ rfl
      simp only [isSetD, h', Bool.false_eq_true, if_false]
end
end Fc
/-! FcI: all cases, what matches, what fits. -/
namespace Fc
open PySem PySem.Spec PyProof.Rows L2
open Evl (Ex)
/-- what is known is forgotten -/
def slW : List Sl → List Sl → Prop
  | [], [] => True
  | s' :: r', s :: r => (s' = .no ∨ s' = s) ∧ slW r' r
  | _, _ => False
theorem Rel.wk {G : Hp} : ∀ {ρ' ρ : List Sl} {σ : L2.St}, slW ρ' ρ → Rel G ρ σ → Rel G ρ' σ
  | [], [], _, _, h => h
  | s' :: r', s :: r, o :: σ, ⟨h1, h2⟩, ⟨h3, h4⟩ => ⟨by
      rcases h1 with h1 | h1
      · exact .inl h1
      · rw [h1]; exact h3, Rel.wk h2 h4⟩
  | [], _ :: _, _, h, _ => h.elim
  | _ :: _, [], _, h, _ => h.elim
  | _ :: _, _ :: _, [], _, h => h.elim
theorem aT_wk {G0 H0 : Hp} {ρ' ρ : List Sl} {M : Mx} (h : slW ρ' ρ) (σ : L2.St) (G H : Hp) (a : (aT G0 H0 ρ M).p σ G H) : (aT G0 H0 ρ' M).p σ G H := ⟨a.1, Rel.wk h a.2.1, a.2.2⟩
section
variable {X : Cx} {G0 H0 : Hp} {A N N' : As} {R : Sl → Prop} {ρ : List Sl} {M : Mx} {e c : Expr} {rest : List Stmt} {sts : List Stmt} {pos py : Pos} {x : Str} {d : PD}
theorem Ss.post (h : Ss X G0 H0 A sts N' R) (k : ∀ σ G H, N'.p σ G H → N.p σ G H) : Ss X G0 H0 A sts N R := PSs.wk h fun D σ H ⟨G, s, as, q1, q2⟩ => ⟨G, s, as, fun σ' G' H' e' s' n => q1 σ' G' H' e' s' (k _ _ _ n), q2⟩
theorem ss_setD {G1 H1 : Hp} (i : Nat) (h : WD X (aT G0 H0 ρ M) e d) (k : Ss X G1 H1 (aT G0 H0 (ρ.set i (.da d)) M) rest N R) (hN : X.N.Nodup) (hi : X.N[i]? = some x := by rfl) (hx : Loc X.env.scope x := by first | exact Or.inl rfl | exact Or.inr rfl) (hs : swapsWith e (some (.Name x py)) pos.line X.env = pure false := by rfl)
    (hf : X.fn x = true ∨ X.env.scope.names.lookup x = some .local := by first | exact .inl rfl | exact .inr rfl | assumption) : Ss X G1 H1 (aT G0 H0 ρ M) (.Assign [.Name x py] e pos :: rest) N R :=
  ss_set i h (by rintro _ rfl; exact k) hN hi hx hs hf
/-- name = [e for a in xs if ..], on one line -/
theorem ss_setLc {α : Type} {elt tg it : Expr} {ifs : List Expr} {scope : Scope} {own : List (Str × Nat)} {cpos : Pos} {g : TG} (i : Nat) (l : List α) (enc : α → PD) (A' : α → As) (f : α → Bool) (r : α → PD) (hc : X.calm = true) (hN : X.N.Nodup) (hy : X.N[i]? = some x) (hyl : X.env.scope.names.lookup x = some .local)
    (hsw : swapsWith (.ListComp elt [⟨tg, it, ifs, 0⟩] scope cpos) (some (.Name x py)) pos.line X.env = pure true) (hi : Wi X (aT G0 H0 ρ M) tg it (Eq (l.map enc))) (ok : BlkOk X.N X.env.scope scope own)
    (hg : ∀ (s : Shared) (H : Hp) (C : Addr) (cl : List (Str × Addr)) (fp : List Addr), PG (X.blk s H scope (compEnvC scope cl C X.env) fp) tg g)
    (hgt : ∀ a ∈ l, GT g (own.map (·.2)) (aT G0 H0 (wipeS ρ (own.map (·.2))) M) (enc a) (A' a))
    (ht : ∀ a ∈ l, ∀ (s : Shared) (H : Hp) (C : Addr) (cl : List (Str × Addr)) (fp : List Addr), PTs (X.blk s H scope (compEnvC scope cl C X.env) fp) ifs (tTt (A' a) (Eq (f a))))
    (he : ∀ a ∈ l, f a = true → ∀ (s : Shared) (H : Hp) (C : Addr) (cl : List (Str × Addr)) (fp : List Addr), WD (X.blk s H scope (compEnvC scope cl C X.env) fp) (A' a) elt (r a))
    (inj : ∀ a b, enc a = enc b → a = b) (hz : l.length ≤ 100000) (k : Ss X G0 H0 (aT G0 H0 (ρ.set i (.da (.list ((l.filter f).map r)))) M) rest N R) (hs : ∀ x, foldedSetIterable it X.env x = pure x := by intro _; rfl) :
    Ss X G0 H0 (aT G0 H0 ρ M) (.Assign [.Name x py] (.ListComp elt [⟨tg, it, ifs, 0⟩] scope cpos) pos :: rest) N R := by
  have B : PD → Bool → Prop := fun d b => ∃ a ∈ l, d = enc a ∧ b = f a
  have ht' : ∀ (s : Shared) (H : Hp) (C : Addr) (cl : List (Str × Addr)) (fp : List Addr), PTs (X.blk s H scope (compEnvC scope cl C X.env) fp) ifs (tLcT (fun d => ⟨fun σ G H => ∃ a ∈ l, d = enc a ∧ (A' a).p σ G H, fun n ⟨a, h1, h2, h3⟩ => ⟨a, h1, h2, (A' a).m n h3⟩⟩) (Eq (l.map enc)) (fun d b => ∃ a ∈ l, d = enc a ∧ b = f a)) := by
    refine fun s H C cl fp => PTs.exi (t := fun d : { d // ∃ l', l.map enc = l' ∧ d ∈ l' } => tTt ⟨fun σ G H => ∃ a ∈ l, d.1 = enc a ∧ (A' a).p σ G H, fun n ⟨a, h1, h2, h3⟩ => ⟨a, h1, h2, (A' a).m n h3⟩⟩ (fun b => ∃ a ∈ l, d.1 = enc a ∧ b = f a)) ?_
    rintro ⟨d, _, rfl, hd⟩
    obtain ⟨a, ha, rfl⟩ := List.mem_map.mp hd
    refine PTs.wk (ht a ha s H C cl fp) ?_
    rintro σ H Q ⟨G, s, ⟨a', ha', e, as⟩, q⟩
    cases inj _ _ e
    exact ⟨G, s, as, fun b G' H' hb => q b G' H' ⟨a, ha, rfl, hb.symm⟩⟩
  have he' : ∀ (s : Shared) (H : Hp) (C : Addr) (cl : List (Str × Addr)) (fp : List Addr), PE (X.blk s H scope (compEnvC scope cl C X.env) fp) elt (tLcE (fun d => ⟨fun σ G H => ∃ a ∈ l, d = enc a ∧ (A' a).p σ G H, fun n ⟨a, h1, h2, h3⟩ => ⟨a, h1, h2, (A' a).m n h3⟩⟩) (Eq (l.map enc)) (fun d b => ∃ a ∈ l, d = enc a ∧ b = f a) (fun d s => ∃ a ∈ l, d = enc a ∧ s = .da (r a))) := by
    refine fun s H C cl fp => PE.exi (t := fun d : { d // (∃ l', l.map enc = l' ∧ d ∈ l') ∧ ∃ a ∈ l, d = enc a ∧ true = f a } => tW ⟨fun σ G H => ∃ a ∈ l, d.1 = enc a ∧ (A' a).p σ G H, fun n ⟨a, h1, h2, h3⟩ => ⟨a, h1, h2, (A' a).m n h3⟩⟩ (fun s => ∃ a ∈ l, d.1 = enc a ∧ s = .da (r a))) ?_
    rintro ⟨d, ⟨_, rfl, hd⟩, a, ha, rfl, hb⟩
    refine PE.wk (he a ha hb.symm s H C cl fp) ?_
    rintro σ H Q ⟨G, s, ⟨a', ha', e, as⟩, q⟩
    cases inj _ _ e
    exact ⟨G, s, as, fun b v G' H' hb => q b v G' H' ⟨a, ha, rfl, hb.symm⟩⟩
  refine PSs.wk (pss_cons (ps_setLc (i := i) hc hN hy hyl hsw hi ok hg ht' he' hs) k) ?_
  rintro D σ H ⟨G, s, as, q1, q2⟩
  show tLc _ _ _ _ _ σ H (fun x H1 => gName i x σ H1 _)
  refine lc_read (aT G0 H0 (wipeS ρ (own.map (·.2))) M) _ hw_aT ?_ ?_ ?_ s as fun l' res v G' H' hl hcoll n dv => ?_
  · rintro d ⟨_, rfl, hd⟩ σ G H v s as dv Q q
    obtain ⟨a, ha, rfl⟩ := List.mem_map.mp hd
    exact hgt a ha σ G H v s as dv Q fun σ' G' H' hw n as' => q σ' G' H' hw n ⟨a, ha, rfl, as'⟩
  · rintro _ rfl
    rw [List.length_map]
    exact hz
  · rintro d _ ⟨a, _, _, rfl⟩
    exact ⟨_, rfl⟩
  · subst hl
    have er : res = (l.filter f).map r := Coll.detT (f := f) (g := r) (by
      rintro a ha b ⟨a', ha', e, rfl⟩
      cases inj _ _ e
      rfl) (by
      rintro a ha _ e ⟨a', ha', e', h⟩
      cases inj _ _ e'
      injection h) hcoll
    subst er
    exact ⟨G', n.s, ⟨as.1.trans n, Rel.set (s := .da _) dv i (as.2.1.up n.g), M.m n as.2.2⟩, fun σ'' G'' H'' e'' => q1 σ'' G'' H'' (n.g.trans e''), q2⟩
end

/-! ### cases_of -/
def stepM (found : List (List Int)) (w : Int) : List (List Int) := found.flatMap fun c => (List.range w.toNat).map fun (v : Nat) => c ++ [(v : Int)]
def casesM (ws : List Int) : List (List Int) := ws.foldl stepM [[]]
theorem casesM_take {ws : List Int} {i : Nat} {w : Int} (h : ws[i]? = some w) : casesM (ws.take (i + 1)) = stepM (casesM (ws.take i)) w := by
  obtain ⟨h1, e⟩ := List.getElem?_eq_some_iff.mp h
  rw [← e, ← List.take_append_getElem h1]
  unfold casesM
  rw [List.foldl_append]
  rfl
theorem casesM_snoc (ws : List Int) (w : Int) : casesM (ws ++ [w]) = stepM (casesM ws) w := by
  unfold casesM
  rw [List.foldl_append]
  rfl
theorem stepM_length (l : List (List Int)) (w : Int) : (stepM l w).length = l.length * w.toNat := by
  unfold stepM
  induction l with
  | nil => simp
  | cons a l ih =>
    rw [List.flatMap_cons, List.length_append, ih, List.length_map, List.length_range, List.length_cons, Nat.succ_mul, Nat.add_comm]
theorem casesM_le : ∀ (i : Nat) (ws : List Int), (∀ w ∈ ws, 1 ≤ w ∧ w ≤ 8) → i ≤ ws.length → (casesM (ws.take i)).length ≤ 8 ^ i
  | 0, ws, _, _ => by simp [casesM]
  | i + 1, ws, h, hi => by
    have hw : ws[i]? = some ws[i] := List.getElem?_eq_getElem (by omega)
    rw [casesM_take hw, stepM_length]
    have ih := casesM_le i ws h (by omega)
    have h1 := h ws[i] (List.getElem_mem _)
    calc (casesM (ws.take i)).length * (ws[i]).toNat ≤ 8 ^ i * 8 := Nat.mul_le_mul ih (by omega)
      _ = 8 ^ (i + 1) := (Nat.pow_succ ..).symm
theorem casesM_len {ws : List Int} {c : List Int} (h : c ∈ casesM ws) : c.length = ws.length := by
  have key : ∀ (ws : List Int) (found : List (List Int)) (n : Nat), (∀ c ∈ found, c.length = n) → ∀ c ∈ ws.foldl stepM found, c.length = n + ws.length := by
    intro ws
    induction ws with
    | nil => intro found n hf c hc; exact hf c hc
    | cons w ws ih =>
      intro found n hf c hc
      have := ih (stepM found w) (n + 1) (by
        intro c hc
        unfold stepM at hc
        obtain ⟨c', hc', hm⟩ := List.mem_flatMap.mp hc
        obtain ⟨v, _, rfl⟩ := List.mem_map.mp hm
        rw [List.length_append, hf c' hc']
        rfl) c hc
      rw [this, List.length_cons]
      omega
  have := key ws [[]] 0 (by intro c hc; rw [List.mem_singleton.mp hc]; rfl) c h
  omega
theorem casesM_512 {ws : List Int} (h : ∀ w ∈ ws, 1 ≤ w ∧ w ≤ 8) (h3 : ws.length ≤ 3) : (casesM ws).length ≤ 512 := by
  have := casesM_le ws.length ws h (Nat.le_refl _)
  rw [List.take_length] at this
  have h8 : 8 ^ ws.length ≤ 8 ^ 3 := Nat.pow_le_pow_right (by decide) h3
  have : (8 : Nat) ^ 3 = 512 := by decide
  omega
def FCases (ss : List Sl) (S : Sl → Prop) : Prop := ∃ ws : List Int, ws.length ≤ 3 ∧ (∀ w ∈ ws, 1 ≤ w ∧ w ≤ 8) ∧ ss = [.da (.tuple (ws.map .int))] ∧ S = Eq (.da (.list ((casesM ws).map encC)))
abbrev sCases : Stmt := topS 18
theorem scCases : FnScope ["widths", "found", "width", "case", "value"] ["widths"] (defScope sCases) := ⟨rfl, rfl, rfl, by decide +kernel, rfl, by decide +kernel, by decide +kernel⟩
section
variable {P : Program} {w : World} {K : PySem.W.Frag} {mg : Str → Option Value} {base : Heap} {f : Addr} {fd : FuncData} {k : Nat}
theorem d_cases (T : Txt K mg) (Fn : Fun K "cases_of" "cases_of" sCases f fd) (hm : mg "cases_of" = some (.ref f)) (hb : Binds K fd ["widths"] []) : Def P w K mg base CX0 1 "cases_of" ["widths"] (spF FCases) := by
  refine def_of Fn hm hb scCases (by rintro _ _ ⟨ws, _, _, rfl, rfl⟩; rfl) (fun cdv A outer s H E hr => ?_)
  rintro _ _ ⟨ws, h3, hw, rfl, rfl⟩ G0 H0
  refine ss_setD 1 (w_lst [.tuple []] (ws_one (w_tup [] ws_nil))) ?_ scCases.nd
  refine ss_for (vs := [2]) (fun l i => aT G0 H0 [.da (.tuple (ws.map .int)), .da (.list ((casesM (ws.take i)).map encC)), .no, .no, .no] M0) (fun l i => aT G0 H0 [.da (.tuple (ws.map .int)), .da (.list ((casesM (ws.take i)).map encC)), .da (l.getD i .none), .no, .no] M0)
    PassesOwn.never rfl (wi_tup (w_var 0)) (pg_name (i := 2) scCases.nd rfl (Or.inr rfl)) ?_ ?_ ?_ ?_
  · rintro _ rfl
    exact aT_wk ⟨.inr rfl, .inr rfl, .inl rfl, .inl rfl, .inl rfl, trivial⟩
  · rintro _ i d rfl hd
    have e : (ws.map PyData.int).getD i .none = d := by rw [List.getD_eq_getElem?_getD, hd]; rfl
    rw [e]
    exact gt_name 2
  · rintro _ i d rfl hd
    have e : (ws.map PyData.int).getD i .none = d := by rw [List.getD_eq_getElem?_getD, hd]; rfl
    rw [e]
    rw [List.getElem?_map] at hd
    obtain ⟨x, hx, rfl⟩ := Option.map_eq_some_iff.mp hd
    have hxm := List.mem_of_getElem? hx
    have hx1 := hw x hxm
    have hlt := (List.getElem?_eq_some_iff.mp hx).1
    refine ss_setLc2 (own := [("case", 3), ("value", 4)]) 1 3 4 (casesM (ws.take i)) (fun _ => List.range x.toNat) encC natD (fun c v => encC (c ++ [(v : Int)])) rfl scCases.nd rfl rfl (sw_true rfl rfl rfl (by decide +kernel)) (wi_lst (w_var 1))
      (blkOk_by (own := [("case", 3), ("value", 4)]) (N := ["widths", "found", "width", "case", "value"]) (sc := defScope sCases) (by decide +kernel)) (by decide) (by decide) (fun _ _ _ _ _ => pg_name (i := 3) scCases.nd rfl (Or.inl rfl)) (fun c hc s H C cl fp => ?_) (fun _ _ _ _ _ => pg_name (i := 4) scCases.nd rfl (Or.inl rfl))
      (fun c hc v hv s H C cl fp => ?_) ?_ (fun _ => by rw [List.length_range]; omega) (fun σ v => ?_) ?_
    · exact ((wi_rangeQ (P := Eq x) ((w_var (s := .da (.int x)) (ρ := [.da (.tuple (ws.map .int)), .da (.list ((casesM (ws.take i)).map encC)), .da (.int x), .da (encC c), .no]) 2).imp fun _ z => intS_of z) (by rintro _ rfl; omega) T.range).imp (by rintro _ ⟨_, rfl, rfl⟩; rfl))
    · exact W.to (w_catT (xs := c.map .int) (ys := [.int (v : Int)]) (w_var (ρ := [.da (.tuple (ws.map .int)), .da (.list ((casesM (ws.take i)).map encC)), .da (.int x), .da (encC c), .da (natD v)]) 3) (w_tup [.int (v : Int)] (ws_one (w_var (ρ := [.da (.tuple (ws.map .int)), .da (.list ((casesM (ws.take i)).map encC)), .da (.int x), .da (encC c), .da (natD v)]) 4))) (by
        have := casesM_len hc
        rw [List.length_map, this, List.length_take]
        simp
        omega)) (by unfold encC; rw [List.map_append]; rfl)
    · have := casesM_le i ws hw (by omega)
      have h8 : 8 ^ i ≤ 8 ^ 2 := Nat.pow_le_pow_right (by decide) (by omega)
      have : (8 : Nat) ^ 2 = 64 := by decide
      omega
    · show (((σ.set 3 v).set 4 none).set 3 none) = (σ.set 4 none).set 3 none
      rw [List.set_comm _ _ (by decide), List.set_set]
      exact List.set_comm _ _ (by decide)
    · refine Ss.post ss_nil (aT_wk ⟨.inr rfl, .inr ?_, .inl rfl, .inl rfl, .inl rfl, trivial⟩)
      rw [casesM_take hx]
      unfold stepM
      rw [List.map_flatMap]
      congr 3
      funext c
      rw [List.map_map]
      rfl
  · rintro _ rfl
    refine ss_ret (w_var 1) ?_
    rintro _ rfl
    show _ = _
    rw [List.length_map, List.take_length]
end
end Fc
/-! FcJ: what matches, what fits. -/
namespace Fc
open PySem PySem.Spec PyProof.Rows L2
open Evl (Ex)
/-! ### matches_in -/
def rngOf (L : Li) (k i : Nat) : Int × Int := match L.rules[k]? with
  | some r => r.rs.getD i (0, 0)
  | none => (0, 0)
def mtch (L : Li) (k : Nat) (c : List Int) : Bool := c.zipIdx.all fun p => decide ((rngOf L k p.2).1 ≤ p.1) && decide (p.1 ≤ (rngOf L k p.2).2)
def FMatch (ss : List Sl) (S : Sl → Prop) : Prop := ∃ L k c, OkL L ∧ k < L.rules.length ∧ c.length = L.ws.length ∧ ss = [.da (encL L), .da (natD k), .da (encC c)] ∧ S = Eq (.da (.bool (mtch L k c)))
abbrev sMatch : Stmt := topS 19
theorem scMatch : FnScope ["listed", "number", "case", "ranges", "at", "value"] ["listed", "number", "case"] (defScope sMatch) := ⟨rfl, rfl, rfl, by decide +kernel, rfl, by decide +kernel, by decide +kernel⟩
theorem getD_at {α : Type} {l : List α} {i : Nat} {a d : α} (h : l[i]? = some a) : l.getD i d = a := by rw [List.getD_eq_getElem?_getD, h]; rfl
section
variable {P : Program} {w : World} {K : PySem.W.Frag} {mg : Str → Option Value} {base : Heap} {f : Addr} {fd : FuncData} {k : Nat}
theorem d_match (T : Txt K mg) (Fn : Fun K "matches_in" "matches_in" sMatch f fd) (hm : mg "matches_in" = some (.ref f)) (hb : Binds K fd ["listed", "number", "case"] []) : Def P w K mg base CX0 1 "matches_in" ["listed", "number", "case"] (spF FMatch) := by
  refine def_of Fn hm hb scMatch (by rintro _ _ ⟨L, k, c, _, _, _, rfl, rfl⟩; rfl) (fun cdv A outer s H E hr => ?_)
  rintro _ _ ⟨L, k, c, hL, hk, hc, rfl, rfl⟩ G0 H0
  have hr' : L.rules[k]? = some L.rules[k] := List.getElem?_eq_getElem hk
  have hR := hL.rv _ (List.getElem_mem hk)
  generalize hrr : L.rules[k] = r at *
  have eI : atI (L.rules.map encR) (k : Int) = some (encR r) := atI_nat (by rw [List.getElem?_map, hr']; rfl)
  refine ss_setD 3 (w_it 1 (w_ix (w_L1 (w_var 0)) (w_var (s := .da (natD k)) 1) rfl eI) rfl (by show 1 < 2; decide)) ?_ scMatch.nd
  refine ss_ret (w_allF rfl (w_lc0 (own := [("at", 4), ("value", 5)]) c.zipIdx encP (fun p => aT G0 H0 [.da (encL L), .da (natD k), .da (encC c), .da (.tuple (r.rs.map encG)), .da (.int (p.2 : Nat)), .da (.int p.1)] M0) (fun p => .bool (decide ((rngOf L k p.2).1 ≤ p.1) && decide (p.1 ≤ (rngOf L k p.2).2))) rfl scMatch.nd ((wi_enumT (w_var (s := .da (encC c)) 2) T.enum).to (enumD_ints c)) (blkOk_by (own := [("at", 4), ("value", 5)]) (N := ["listed", "number", "case", "ranges", "at", "value"]) (sc := defScope sMatch) (by decide +kernel))
          (fun _ _ _ _ _ => pg_tup rfl (pgs_cons (pg_name (i := 4) scMatch.nd rfl (Or.inl rfl)) (pgs_cons (pg_name (i := 5) scMatch.nd rfl (Or.inl rfl)) pgs_nil))) (fun a _ => gt_two 4 5 (by decide)) (fun p hp s H C cl fp => ?_) encP_inj (by rw [List.length_zipIdx]; have := hL.w3; omega)) T.all) ?_
  · have hp' := zipIdx_at hp
    have hlt := (List.getElem?_eq_some_iff.mp hp').1
    have hlt2 : p.2 < r.rs.length := by rw [hR.len]; omega
    have hq : r.rs[p.2]? = some r.rs[p.2] := List.getElem?_eq_getElem hlt2
    have e2 : rngOf L k p.2 = r.rs[p.2] := by
      unfold rngOf
      rw [hr']
      exact getD_at hq
    rw [e2]
    generalize r.rs[p.2] = q at *
    have eJ : atI (r.rs.map encG) (p.2 : Int) = some (encG q) := atI_nat (by rw [List.getElem?_map, hq]; rfl)
    exact w_chain cmp_le cmp_le (w_it 0 (w_ix (w_var 3) (w_var 4) rfl eJ) rfl (by show 0 < 2; decide)) (w_var 5) (w_it 1 (w_ix (w_var 3) (w_var 4) rfl eJ) rfl (by show 1 < 2; decide))
  · rintro _ rfl
    rfl
end
/-! ### does_fit, fitting -/
def fits (L : Li) (S A : List Nat) (c : List Int) : Bool := (S.all fun k => mtch L k c) && !(A.any fun k => mtch L k c)
def OkS (L : Li) (S : List Nat) : Prop := S.length ≤ 1000 ∧ ∀ k ∈ S, k < L.rules.length
def FFit (ss : List Sl) (R : Sl → Prop) : Prop := ∃ L S A c, OkL L ∧ OkS L S ∧ OkS L A ∧ c.length = L.ws.length ∧ ss = [.da (encL L), .da (encS S), .da (encS A), .da (encC c)] ∧ R = Eq (.da (.bool (fits L S A c)))
abbrev sFit : Stmt := topS 22
theorem scFit : FnScope ["listed", "chosen", "avoided", "case", "number"] ["listed", "chosen", "avoided", "case"] (defScope sFit) := ⟨rfl, rfl, rfl, by decide +kernel, rfl, by decide +kernel, by decide +kernel⟩
def FFitting (ss : List Sl) (R : Sl → Prop) : Prop := ∃ L S A, OkL L ∧ OkS L S ∧ OkS L A ∧ ss = [.da (encL L), .da (encS S), .da (encS A)] ∧ R = Eq (.da (.list (((casesM L.ws).filter (fits L S A)).map encC)))
abbrev sFitting : Stmt := topS 23
theorem scFitting : FnScope ["listed", "chosen", "avoided", "case"] ["listed", "chosen", "avoided"] (defScope sFitting) := ⟨rfl, rfl, rfl, by decide +kernel, rfl, by decide +kernel, by decide +kernel⟩
section
variable {P : Program} {w : World} {K : PySem.W.Frag} {mg : Str → Option Value} {base : Heap} {f : Addr} {fd : FuncData} {k : Nat}
theorem d_fit (T : Txt K mg) (D1 : Def P w K mg base CX0 1 "matches_in" ["listed", "number", "case"] (spF FMatch)) (Fn : Fun K "does_fit" "does_fit" sFit f fd) (hm : mg "does_fit" = some (.ref f)) (hb : Binds K fd ["listed", "chosen", "avoided", "case"] []) : Def P w K mg base CX0 2 "does_fit" ["listed", "chosen", "avoided", "case"] (spF FFit) := by
  refine def_of Fn hm hb scFit (by rintro _ _ ⟨L, S, A, c, _, _, _, _, rfl, rfl⟩; rfl) (fun cdv A outer s H E hr => ?_)
  rintro _ _ ⟨L, S, B, c, hL, hS, hB, hc, rfl, rfl⟩ G0 H0
  refine ss_ifB (t_not (t_val (w_allF rfl (w_lc0 (own := [("number", 4)]) S natD (fun k => aT G0 H0 [.da (encL L), .da (encS S), .da (encS B), .da (encC c), .da (natD k)] M0) (fun k => .bool (mtch L k c)) rfl scFit.nd
      (wi_tup (w_var (s := .da (encS S)) 1)) (blkOk_by (own := [("number", 4)]) (N := ["listed", "chosen", "avoided", "case", "number"]) (sc := defScope sFit) (by decide +kernel)) (fun _ _ _ _ _ => pg_name (i := 4) scFit.nd rfl (Or.inl rfl)) (fun a _ => gt_name 4)
      (fun k hk s H C cl fp => w_call D1 hr (ws_cons (w_var 0) (ws_cons (w_var 4) (ws_cons (w_var 3) ws_nil))) ⟨_, _, _, hL, hS.2 k hk, hc, rfl, rfl⟩) natD_inj (by have := hS.1; omega)) T.all))) (fun h => ss_ret w_bl ?_) (fun h => ?_)
  · rintro _ rfl
    simp only [fits]
    cases e : S.all fun k => mtch L k c
    · rfl
    · rw [e] at h; cases h
  · have h := nb h
    refine ss_ret (w_not (w_anyF rfl (w_lc0 (own := [("number", 4)]) B natD (fun k => aT G0 H0 [.da (encL L), .da (encS S), .da (encS B), .da (encC c), .da (natD k)] M0) (fun k => .bool (mtch L k c)) rfl scFit.nd
      (wi_tup (w_var (s := .da (encS B)) 2)) (blkOk_by (own := [("number", 4)]) (N := ["listed", "chosen", "avoided", "case", "number"]) (sc := defScope sFit) (by decide +kernel)) (fun _ _ _ _ _ => pg_name (i := 4) scFit.nd rfl (Or.inl rfl)) (fun a _ => gt_name 4)
      (fun k hk s H C cl fp => w_call D1 hr (ws_cons (w_var 0) (ws_cons (w_var 4) (ws_cons (w_var 3) ws_nil))) ⟨_, _, _, hL, hB.2 k hk, hc, rfl, rfl⟩) natD_inj (by have := hB.1; omega)) T.any)) ?_
    rintro _ rfl
    simp only [fits, h, Bool.true_and]
theorem d_fitting (T : Txt K mg) (D1 : Def P w K mg base CX0 2 "does_fit" ["listed", "chosen", "avoided", "case"] (spF FFit)) (D2 : Def P w K mg base CX0 1 "cases_of" ["widths"] (spF FCases)) (Fn : Fun K "fitting" "fitting" sFitting f fd) (hm : mg "fitting" = some (.ref f)) (hb : Binds K fd ["listed", "chosen", "avoided"] []) : Def P w K mg base CX0 3 "fitting" ["listed", "chosen", "avoided"] (spF FFitting) := by
  refine def_of Fn hm hb scFitting (by rintro _ _ ⟨L, S, A, _, _, _, rfl, rfl⟩; rfl) (fun cdv A outer s H E hr => ?_)
  rintro _ _ ⟨L, S, B, hL, hS, hB, rfl, rfl⟩ G0 H0
  refine ss_ret (w_lc (own := [("case", 3)]) (casesM L.ws) encC (fun c => aT G0 H0 [.da (encL L), .da (encS S), .da (encS B), .da (encC c)] M0) (fits L S B) encC rfl scFitting.nd
    (wi_lst (w_call D2 (hr.mono (by decide)) (ws_one (w_L0 (w_var 0))) ⟨L.ws, hL.w3, hL.wv, rfl, rfl⟩)) (blkOk_by (own := [("case", 3)]) (N := ["listed", "chosen", "avoided", "case"]) (sc := defScope sFitting) (by decide +kernel)) (fun _ _ _ _ _ => pg_name (i := 3) scFitting.nd rfl (Or.inl rfl)) (fun a _ => gt_name 3)
    (fun c hc s H C cl fp => pts_T1 (t_val (w_call D1 hr (ws_cons (w_var 0) (ws_cons (w_var 1) (ws_cons (w_var 2) (ws_cons (w_var 3) ws_nil)))) ⟨L, S, B, c, hL, hS, hB, casesM_len hc, rfl, rfl⟩))) (fun c hc hf s H C cl fp => w_var 3) encC_inj (by have := casesM_512 hL.wv hL.w3; omega)) ?_
  rintro _ rfl
  rfl
end
end Fc
/-! FcK: blocks that raise BadValue. -/
namespace Fc
open PySem PySem.Spec PyProof.Rows L2
open Evl (Ex)
/-! ### BadValue.__init__ -/
abbrev sInit : Stmt := inClass (topS 2) 0
def spInit (C : Addr) : Sp := fun vs H Q _ => ∃ (a : Addr) (nm : Str), vs = [.ref a, .str nm] ∧ H a = some (exo a C none) ∧ ∀ dx, H dx = none → dx ≠ a → Q .non (upd (upd H dx (exd dx [(("name" : Str), V.str nm)])) a (exo a C (some dx)))
theorem scInit : FnScope ["self", "name"] ["self", "name"] (defScope sInit) := ⟨rfl, rfl, rfl, by decide +kernel, rfl, by decide +kernel, by decide +kernel⟩
/-- what the written part says of BadValue, at C -/
structure Bad (P : Program) (w : World) (K : PySem.W.Frag) (mg : Str → Option Value) (base : Heap) (C : Addr) : Prop where
  g : mg "BadValue" = some (.ref C)
  T : OexC K C
  X : XfC K C
  no : PySem.W.findIn K (.ref C) "name" = some none
  te : PySem.W.exmOne K (.ref C) (.ref C) = some true
  init : ∃ fI fd, PySem.W.findIn K (.ref C) "__init__" = some (some (.ref fI)) ∧ PySem.W.typeIn K (.ref fI) = some (.type "function") ∧ FnOk P w K mg base CX0 1 fI fd ["self", "name"] (spInit C) ∧ Binds K fd ["self", "name"] []
section
variable {P : Program} {w : World} {K : PySem.W.Frag} {mg : Str → Option Value} {base : Heap} {f C : Addr} {fd : FuncData} {k : Nat}
theorem d_init (T : OexC K C) (no : PySem.W.findIn K (.ref C) "name" = some none) (Fn : Fun K "__init__" "BadValue.__init__" sInit f fd) : FnOk P w K mg base CX0 1 f fd ["self", "name"] (spInit C) := by
  refine Fn.ok scInit (fun vs H Q E h => ?_) (fun cdv A outer s H vs Q E hr h => ?_)
  · obtain ⟨a, nm, rfl, _⟩ := h
    rfl
  · obtain ⟨a, nm, rfl, h1, h2⟩ := h
    refine ⟨_, pss_one (ps_ost (pv 0) (pv 1)), ?_⟩
    exact ⟨_, rfl, _, rfl, a, C, rfl, T, no, .inl ⟨h1, h2⟩⟩
end

def isErr (H : Hp) (d : Addr) (nm : Str) : Prop := H d = some (.xd [(("name" : Str), V.str nm)])
def tBz (A : As) (C : Addr) (nm : Str) (W : WX) : L2.St → Hp → Prop := fun σ H => ∃ G, Ex G H ∧ A.p σ G H ∧ ∀ (d : Addr) G' H', Nx G H G' H' → isErr H' d nm → W (.ref C) (some d) σ H'
/-- from A the block ends by BadValue(nm), which W takes -/
def Bz (X : Cx) (A : As) (C : Addr) (nm : Str) (W : WX) (sts : List Stmt) : Prop := PSs X sts (fun _ σ H => tBz A C nm W σ H)
section
variable {X : Cx} {A : As} {C : Addr} {nm : Str} {W : WX} {sts body orelse rest : List Stmt} {e c : Expr} {es : List Expr} {p pos pos2 : Pos} {x : Str} {k : Nat} {ps : List Str} {F : List Sl → Except Str (Sl → Prop) → Prop} {G0 H0 : Hp} {ρ : List Sl} {M : Mx} {N : As} {R : Sl → Prop}
theorem bz_raise (B : Bad X.prog X.w X.K X.mg X.base C) (hc : X.calm = true) (tk : Takes X W) (hr : Room 2 X.A) (h : WD X A e (.str nm)) (hg : Gl X "BadValue" := by rfl)
    (he : starEach [e] X.env = (false, eval e X.env) :: starEach [] X.env := by rfl) (hpl : (backTo pos (starEach [] X.env)).any (·.1) = false := by rfl) :
    Bz X A C nm W (.Raise (some (.Call (.Name "BadValue" p) [e] [] pos)) none pos2 :: rest) := by
  obtain ⟨fI, fd, h1, h2, h3, h4⟩ := B.init
  refine PSs.wk (pss_cons (ps_raise hc tk (pmk_oex B.T h1 h2 h3 hr h4 .nil pass0 hg B.g (ws_one h he) (by decide) he hpl)) pss_never) ?_
  rintro D σ H ⟨G, s, as, q⟩
  refine ⟨G, s, as, ?_⟩
  rintro _ vs G1 H1 rfl n1 dv
  obtain ⟨v, rfl, dv'⟩ := slAll1 dv
  cases dv'
  refine ⟨by show 1 ≤ 1000; decide, fun a ha => ⟨a, nm, rfl, upd_same, fun dx hdx ne => ⟨rfl, dx, [(("name" : Str), V.str nm)], upd_same, ?_, ?_, ?_⟩⟩⟩
  · rw [upd_ne ne, upd_same]
  · rw [upd_ne ne] at hdx
    exact hdx
  · rw [upd_ne ne] at hdx
    refine q dx G1 _ (n1.more fun b o hb => ?_) upd_same
    have nb : b ≠ dx := fun z => by rw [z, hdx] at hb; cases hb
    have na : b ≠ a := fun z => by rw [z, ha] at hb; cases hb
    rw [upd_ne nb, del_ne na, upd_ne na, upd_ne nb, upd_ne na]
    exact hb
theorem pe_callXz (D : Def X.prog X.w X.K X.mg X.base (L2.CX X.prog X.w) k x ps (spX C F)) (hr : Room k X.A) (tk : Takes X W) {l : List Sl} (ha : Ws X A (e :: es) (Eq l)) (hF : F l (.error nm)) (hg : Gl X x := by rfl)
    (hdb : (x == ("__debug__" : Str)) = false := by decide) (he : starEach (e :: es) X.env = (false, eval e X.env) :: starEach es X.env := by rfl) (hpl : (backTo pos (starEach es X.env)).any (·.1) = false := by rfl) : PE X (.Call (.Name x p) (e :: es) [] pos) (fun σ H _ => tBz A C nm W σ H) := by
  obtain ⟨f, fd, h1, h2, h3, h4⟩ := D
  refine PE.wk (pe_callS h1 hr hg h2 h3 h4 (fun σ => passAt tk σ) ha hdb he hpl) ?_
  rintro σ H Q ⟨G, s, as, q⟩
  refine ⟨G, s, as, ?_⟩
  rintro _ vs G1 H1 rfl n1 dv
  exact ⟨G1, l, .error nm, hF, n1.s, dv, fun d G2 H2 n2 hd => q d G2 H2 (n1.trans n2) hd⟩
theorem bz_callE (D : Def X.prog X.w X.K X.mg X.base (L2.CX X.prog X.w) k x ps (spX C F)) (hr : Room k X.A) (tk : Takes X W) {l : List Sl} (ha : Ws X A (e :: es) (Eq l)) (hF : F l (.error nm)) (hg : Gl X x := by rfl)
    (hdb : (x == ("__debug__" : Str)) = false := by decide) (he : starEach (e :: es) X.env = (false, eval e X.env) :: starEach es X.env := by rfl) (hpl : (backTo pos (starEach es X.env)).any (·.1) = false := by rfl)
    (hs : swapsWith (.Call (.Name x p) (e :: es) [] pos) none pos2.line X.env = pure false := by rfl) : Bz X A C nm W (.Expr (.Call (.Name x p) (e :: es) [] pos) pos2 :: rest) :=
  PSs.wk (pss_cons (ps_expr (pe_callXz D hr tk ha hF hg hdb he hpl) hs) pss_never) fun D σ H h => h
theorem bz_callR (D : Def X.prog X.w X.K X.mg X.base (L2.CX X.prog X.w) k x ps (spX C F)) (hr : Room k X.A) (tk : Takes X W) {l : List Sl} (ha : Ws X A (e :: es) (Eq l)) (hF : F l (.error nm)) (hg : Gl X x := by rfl)
    (hdb : (x == ("__debug__" : Str)) = false := by decide) (he : starEach (e :: es) X.env = (false, eval e X.env) :: starEach es X.env := by rfl) (hpl : (backTo pos (starEach es X.env)).any (·.1) = false := by rfl) : Bz X A C nm W (.Return (some (.Call (.Name x p) (e :: es) [] pos)) pos2 :: rest) :=
  PSs.wk (pss_cons (ps_ret (pe_callXz D hr tk ha hF hg hdb he hpl)) pss_never) fun D σ H h => h
theorem bz_ifT (hc : TD X A c true) (hb : Bz X A C nm W body) : Bz X A C nm W (.If c body orelse pos :: rest) :=
  PSs.wk (pss_cons (ps_if hc hb (pss_never (sts := orelse))) (pss_never (sts := rest))) (by
    rintro D σ H ⟨G, s, as, q⟩
    refine ⟨G, s, as, ?_⟩
    rintro _ G1 H1 rfl n1
    exact iteT ⟨G1, n1.s, A.m n1 as, fun d G2 H2 n2 => q d G2 H2 (n1.trans n2)⟩)
theorem bz_ifF (hc : TD X A c false) (hb : Bz X A C nm W orelse) : Bz X A C nm W (.If c body orelse pos :: rest) :=
  PSs.wk (pss_cons (ps_if hc (pss_never (sts := body)) hb) (pss_never (sts := rest))) (by
    rintro D σ H ⟨G, s, as, q⟩
    refine ⟨G, s, as, ?_⟩
    rintro _ G1 H1 rfl n1
    exact iteF ⟨G1, n1.s, A.m n1 as, fun d G2 H2 n2 => q d G2 H2 (n1.trans n2)⟩)
/-- .. in a def -/
theorem ss_bz (h : Bz X (aT G0 H0 ρ M) C nm W sts) (hE : ∀ (d : Addr) G' H' σ, Nx G0 H0 G' H' → isErr H' d nm → W (.ref C) (some d) σ H') : Ss X G0 H0 (aT G0 H0 ρ M) sts N R := PSs.wk h (by
  rintro D σ H ⟨G, s, as, q1, q2⟩
  exact ⟨G, s, as, fun d G' H' n hd => hE d G' H' σ (as.1.trans n) hd⟩)
end
/-- the end of a def's body, where None is handed back -/
def endN (G0 H0 : Hp) (b : Prop) : As := ⟨fun _ G H => b ∧ Nx G0 H0 G H, fun n h => ⟨h.1, h.2.trans n⟩⟩
section
variable {P : Program} {w : World} {K : PySem.W.Frag} {mg : Str → Option Value} {base : Heap} {f C : Addr} {fd : FuncData} {k : Nat} {x qual : Str} {st : Stmt} {N ps : List Str}
/-- a def that may raise BadValue -/
theorem def_ofX {F : List Sl → Except Str (Sl → Prop) → Prop} (Fn : Fun K x qual st f fd) (hm : mg x = some (.ref f)) (hb : Binds K fd ps []) (S : FnScope N ps (defScope st)) (len : ∀ ss o, F ss o → ss.length = ps.length)
    (body : ∀ (cdv : Value) (A : Around) (outer : List Env) (s : Shared) (H : Hp) (E : XK), Room k (A.deeper (envOfC qual (defScope st) s.heap.objs.size f cdv)) → ∀ ss o, F ss o → ∀ G0 H0,
      (∀ nm, o = .error nm → ∀ (d : Addr) G' H', Nx G0 H0 G' H' → isErr H' d nm → E (.ref C) (some d) H') →
      Takes (cxOf (L2.CX P w) P w K mg base N qual (defScope st) f cdv A outer s H E) (fun cls d _ H => E cls d H) →
      Ss (cxOf (L2.CX P w) P w K mg base N qual (defScope st) f cdv A outer s H E) G0 H0 (aT G0 H0 (ss ++ List.replicate (N.length - ss.length) .no) M0) (defBody st) (endN G0 H0 (∃ S, o = .ok S ∧ S (.da .none))) (fun s => ∃ S, o = .ok S ∧ S s)) : Def P w K mg base (L2.CX P w) (k + 1) x ps (spX C F) := by
  refine ⟨f, fd, Fn.okX S (fun vs H Q E h => ?_) (fun cdv A outer s H vs Q E hr h => ?_), hm, Fn.kp, hb⟩
  · obtain ⟨G, ss, o, h1, _, h2, _⟩ := h
    rw [h2.length]
    exact len _ _ h1
  · obtain ⟨G, ss, o, h1, h2, h3, h4⟩ := h
    refine ⟨_, body cdv A outer s H E hr ss o h1 G H ?_ (takes_of rfl rfl rfl rfl), G, h2, ⟨Nx.refl h2, Rel.start h3, True.intro⟩, ?_, ?_⟩
    · rintro nm rfl d G' H' n hd
      exact h4 d G' H' n hd
    · rintro σ' G' H' _ _ ⟨⟨S, rfl, hS⟩, n⟩
      exact h4 _ .non G' H' hS n Dd.non
    · rintro d v G' H' ⟨S, rfl, hS⟩ n dv
      exact h4 d v G' H' hS n dv
end
end Fc
/-! FcM: the checks that raise, the three functions of the claim. -/
namespace Fc
open PySem PySem.Spec PyProof.Rows L2
open Evl (Ex)
theorem _root_.L2.Room.u65 {k : Nat} {A : Around} (r : Room k A) : A.units + 65 < cLine := by
  have := r.un
  omega
theorem idxOf_le {α : Type} [BEq α] [LawfulBEq α] : ∀ (l : List α) (m : Nat) {c : α}, l[m]? = some c → l.idxOf c ≤ m
  | [], m, c, h => by simp at h
  | a :: l, 0, c, h => by
    have e : a = c := by simpa using h
    subst e
    simp
  | a :: l, m + 1, c, h => by
    have ih := idxOf_le l m (c := c) (by simpa using h)
    rw [List.idxOf_cons]
    cases e : (a == c)
    · simp [e, cond]
      omega
    · simp [e, cond]
/-! ### data compared -/
theorem eqvAll_ints : ∀ a b : List Int, PyData.eqvAll (a.map .int) (b.map .int) = decide (a = b)
  | [], [] => rfl
  | [], _ :: _ => rfl
  | _ :: _, [] => rfl
  | x :: a, y :: b => by
    rw [List.map_cons, List.map_cons]
    show (PyData.eqv (.int x) (.int y) && PyData.eqvAll (a.map .int) (b.map .int)) = _
    rw [eqvAll_ints a b]
    show ((x == y) && decide (a = b)) = _
    rw [Bool.eq_iff_iff]
    simp
theorem eqv_encC (a b : List Int) : PyData.eqv (encC a) (encC b) = decide (a = b) := eqvAll_ints a b
theorem lay_ints : ∀ a : List Int, PyData.canLayAll0 (a.map .int) = true
  | [] => rfl
  | x :: a => by
    rw [List.map_cons]
    show (true && PyData.canLayAll0 (a.map .int)) = true
    rw [lay_ints a]
    rfl
theorem depth_ints : ∀ a : List Int, PyData.depthAll (a.map .int) = 0
  | [] => rfl
  | x :: a => by
    rw [List.map_cons]
    show max 0 (PyData.depthAll (a.map .int)) = 0
    rw [depth_ints a]
    rfl
theorem depth_encC (a : List Int) : PyData.depth (encC a) = 1 := by
  show PyData.depthAll (a.map .int) + 1 = 1
  rw [depth_ints]
theorem shaped_encC (a : List Int) : SeqAt.shaped (encC a) = true := by
  unfold SeqAt.shaped
  rw [depth_encC]
  show (PyData.canLayAll0 (a.map .int) && decide (1 ≤ 64)) = true
  rw [lay_ints]
  rfl
theorem shaped_cs (l : List (List Int)) : SeqAt.shaped (.list (l.map encC)) = true := by
  have h1 : PyData.canLayAll0 (l.map encC) = true := by
    induction l with
    | nil => rfl
    | cons a l ih =>
      rw [List.map_cons]
      show (PyData.canLayAll0 (a.map .int) && PyData.canLayAll0 (l.map encC)) = true
      rw [lay_ints, ih]
      rfl
  have h2 : PyData.depthAll (l.map encC) ≤ 1 := by
    clear h1
    induction l with
    | nil => exact Nat.zero_le _
    | cons a l ih =>
      rw [List.map_cons]
      show max (PyData.depth (encC a)) (PyData.depthAll (l.map encC)) ≤ 1
      rw [depth_encC]
      omega
  unfold SeqAt.shaped
  show (PyData.canLayAll0 (l.map encC) && decide (PyData.depthAll (l.map encC) + 1 ≤ 64)) = true
  rw [h1, decide_eq_true (by omega)]
  rfl
section
variable {X : Cx} {A : As} {e a : Expr} {apos cpos : Pos}
/-- l.index(c) -/
theorem w_index {l : List (List Int)} {c : List Int} (h : WD X A e (.list (l.map encC))) (ha : WD X A a (encC c)) (hc : c ∈ l) (hu : X.A.units + 65 < cLine)
    (hbase : attributeBase e "index" X.env (eval e X.env) = eval e X.env := by rfl)
    (hfew : ((backTo cpos (starEach [a] X.env)).all (fun x => !x.1) && (backToKw cpos (keywordEach [] X.env)).all (fun x => x.1.isSome)
      && decide (([a] : List Expr).length + ([] : List Keyword).length + (if ([] : List Keyword).isEmpty then 0 else 1) < 30)) = true := by rfl)
    (hline : (apos.endLine == cpos.line) = true := by rfl) (hs : starEach [a] X.env = (false, eval a X.env) :: starEach [] X.env := by rfl) (hplain : (backTo cpos (starEach [] X.env)).any (·.1) = false := by rfl) :
    WD X A (.Call (.Attribute e "index" apos) [a] [] cpos) (.int ((l.idxOf c : Nat) : Int)) :=
  W.mk (pe_bm PySem.F.plainAttrs_list PySem.F.slot_list_index PySem.F.type_list_index (mt_indexD hu) h (ws_one ha hs) hbase hfew hline hs hplain) fun σ G H Q s as q => ⟨G, s, as, by
    rintro _ v G1 H1 rfl n1 dv
    have dl := dv
    cases dv with
    | @lst p us _ h1 h2 =>
    refine ⟨.inl ⟨rfl, _, SqL.of (n1.s _ _ h1)⟩, G1, n1.s, A.m n1 as, ?_⟩
    rintro _ vs G2 H2 rfl n2 ds
    obtain ⟨y, rfl, dy⟩ := slAll1 ds
    have hlt : l.idxOf c < l.length := List.idxOf_lt_length_of_mem hc
    refine ⟨p, y, encC c, l.map encC, l.idxOf c, encC c, rfl, rfl, (Dd.up (Dd.up dl n2.g) n2.s).toDp, (Dd.up dy n2.s).toDp, shaped_cs l, shaped_encC c, ?_, ?_, ?_, ?_⟩
    · rw [List.getElem?_map, List.getElem?_eq_getElem hlt, List.getElem_idxOf hlt]
      rfl
    · rw [eqv_encC]
      exact decide_eq_true rfl
    · intro m z' hm hz
      rw [List.getElem?_map] at hz
      obtain ⟨b, hb, rfl⟩ := Option.map_eq_some_iff.mp hz
      rw [eqv_encC]
      refine decide_eq_false fun hbc => ?_
      subst hbc
      have := idxOf_le l m hb
      omega
    · exact q _ _ G2 H2 rfl (n1.trans n2) (Dd.int _)⟩
end
/-! ### outcomes -/
def StS (L : Li) (S : List Nat) : Prop := OkS L S ∧ isSetD L.rules.length (encS S) = true
def due (L : Li) (S A : List Nat) : List (List Int) := (casesM L.ws).filter (fits L S A)
inductive Chk3 : PD → PD → PD → Option Str → Prop
  | listed {dl dc da : PD} : isListD dl = false → Chk3 dl dc da (some "listed")
  | chosen {L : Li} {dc da : PD} : OkL L → (its dc).length ≤ 1000 → isSetD L.rules.length dc = false → Chk3 (encL L) dc da (some "chosen")
  | avoided {L : Li} {S : List Nat} {da : PD} : OkL L → StS L S → (its da).length ≤ 1000 → isSetD L.rules.length da = false → Chk3 (encL L) (encS S) da (some "avoided")
  | good {L : Li} {S A : List Nat} : OkL L → StS L S → StS L A → Chk3 (encL L) (encS S) (encS A) none
abbrev XO := Except Str (Sl → Prop)
def okD (d : PD) : XO := .ok (Eq (.da d))
def FChkL (ss : List Sl) (o : XO) : Prop := (∃ d nm, ss = [.da d, .da (.str nm)] ∧ isListD d = false ∧ o = .error nm) ∨ ∃ L nm, OkL L ∧ ss = [.da (encL L), .da (.str nm)] ∧ o = okD .none
def FChkC (ss : List Sl) (o : XO) : Prop := ∃ L d, OkL L ∧ ss = [.da (encL L), .da d] ∧ ((isCaseD L.ws d = false ∧ o = .error "case") ∨ (isCaseD L.ws d = true ∧ o = okD .none))
def FChkS (ss : List Sl) (o : XO) : Prop := ∃ dl dc da r, ss = [.da dl, .da dc, .da da] ∧ Chk3 dl dc da r ∧ match r with
  | some nm => o = .error nm
  | none => o = okD .none
def FCount (ss : List Sl) (o : XO) : Prop := (∃ dl dc da nm, ss = [.da dl, .da dc, .da da] ∧ Chk3 dl dc da (some nm) ∧ o = .error nm) ∨ ∃ L S A, OkL L ∧ StS L S ∧ StS L A ∧ ss = [.da (encL L), .da (encS S), .da (encS A)] ∧ o = okD (.int ((due L S A).length : Nat))
def FNth (ss : List Sl) (o : XO) : Prop := (∃ dl dc da di nm, ss = [.da dl, .da dc, .da da, .da di] ∧ Chk3 dl dc da (some nm) ∧ o = .error nm) ∨ ∃ L S A di, OkL L ∧ StS L S ∧ StS L A ∧ ss = [.da (encL L), .da (encS S), .da (encS A), .da di] ∧
  ((isBetween di 0 (((due L S A).length : Int) - 1) = false ∧ o = .error "index") ∨ ∃ (i : Nat) (c : List Int), di = .int (i : Int) ∧ (due L S A)[i]? = some c ∧ o = okD (encC c))
def FIdx (ss : List Sl) (o : XO) : Prop := (∃ dl dc da dx nm, ss = [.da dl, .da dc, .da da, .da dx] ∧ Chk3 dl dc da (some nm) ∧ o = .error nm) ∨ ∃ L S A dx, OkL L ∧ StS L S ∧ StS L A ∧ ss = [.da (encL L), .da (encS S), .da (encS A), .da dx] ∧
  ((isCaseD L.ws dx = false ∧ o = .error "case") ∨ ∃ c, dx = encC c ∧ c ∈ casesM L.ws ∧ isCaseD L.ws (encC c) = true ∧ ((fits L S A c = false ∧ o = okD .none) ∨ (fits L S A c = true ∧ o = okD (.int ((due L S A).idxOf c : Nat)))))
theorem its_encS (S : List Nat) : (its (encS S)).length = S.length := List.length_map ..
abbrev sChkL : Stmt := topS 16
theorem scChkL : FnScope ["listed", "name"] ["listed", "name"] (defScope sChkL) := ⟨rfl, rfl, rfl, by decide +kernel, rfl, by decide +kernel, by decide +kernel⟩
abbrev sChkC : Stmt := topS 17
theorem scChkC : FnScope ["listed", "case"] ["listed", "case"] (defScope sChkC) := ⟨rfl, rfl, rfl, by decide +kernel, rfl, by decide +kernel, by decide +kernel⟩
abbrev sChkS : Stmt := topS 24
theorem scChkS : FnScope ["listed", "chosen", "avoided"] ["listed", "chosen", "avoided"] (defScope sChkS) := ⟨rfl, rfl, rfl, by decide +kernel, rfl, by decide +kernel, by decide +kernel⟩
abbrev sCount : Stmt := topS 25
theorem scCount : FnScope ["listed", "chosen", "avoided"] ["listed", "chosen", "avoided"] (defScope sCount) := ⟨rfl, rfl, rfl, by decide +kernel, rfl, by decide +kernel, by decide +kernel⟩
abbrev sNth : Stmt := topS 26
theorem scNth : FnScope ["listed", "chosen", "avoided", "index", "found"] ["listed", "chosen", "avoided", "index"] (defScope sNth) := ⟨rfl, rfl, rfl, by decide +kernel, rfl, by decide +kernel, by decide +kernel⟩
abbrev sIdx : Stmt := topS 27
theorem scIdx : FnScope ["listed", "chosen", "avoided", "case"] ["listed", "chosen", "avoided", "case"] (defScope sIdx) := ⟨rfl, rfl, rfl, by decide +kernel, rfl, by decide +kernel, by decide +kernel⟩
section
variable {P : Program} {w : World} {K : PySem.W.Frag} {mg : Str → Option Value} {base : Heap} {f C : Addr} {fd : FuncData} {k : Nat}
theorem end_ok {G0 H0 : Hp} {ρ : List Sl} {M : Mx} {o : XO} (h : o = okD .none) (σ : L2.St) (G H : Hp) (a : (aT G0 H0 ρ M).p σ G H) : (endN G0 H0 (∃ S, o = .ok S ∧ S (.da .none))).p σ G H := ⟨⟨_, h, rfl⟩, a.1⟩
theorem d_chkL (T : Txt K mg) (B : Bad P w K mg base C) (D1 : Def P w K mg base CX0 4 "is_list" ["value"] (spF FList)) (Fn : Fun K "check_list" "check_list" sChkL f fd) (hm : mg "check_list" = some (.ref f)) (hb : Binds K fd ["listed", "name"] []) : Def P w K mg base (L2.CX P w) 5 "check_list" ["listed", "name"] (spX C FChkL) := by
  refine def_ofX Fn hm hb scChkL (by rintro _ _ (⟨d, nm, rfl, _⟩ | ⟨L, nm, _, rfl, _⟩) <;> rfl) (fun cdv A outer s H E hr => ?_)
  rintro _ _ (⟨d, nm, rfl, h, rfl⟩ | ⟨L, nm, hL, rfl, rfl⟩) G0 H0 hE tk
  · exact ss_bz (bz_ifT ((t_not (t_val (w_call D1 hr (ws_one (w_var 0)) ⟨_, rfl, rfl⟩))).to (by rw [h]; rfl)) (bz_raise B rfl tk (hr.mono (by decide)) (w_var 1))) fun d G' H' σ n hd => hE nm rfl d G' H' n hd
  · exact ss_ifN ((t_not (t_val (w_call D1 hr (ws_one (w_var 0)) ⟨_, rfl, rfl⟩))).to (by rw [isList_ok hL]; rfl)) (Ss.post ss_nil (end_ok rfl))
theorem d_chkC (T : Txt K mg) (B : Bad P w K mg base C) (D1 : Def P w K mg base CX0 2 "is_case" ["listed", "value"] (spF FCase)) (Fn : Fun K "check_case" "check_case" sChkC f fd) (hm : mg "check_case" = some (.ref f)) (hb : Binds K fd ["listed", "case"] []) : Def P w K mg base (L2.CX P w) 3 "check_case" ["listed", "case"] (spX C FChkC) := by
  refine def_ofX Fn hm hb scChkC (by rintro _ _ ⟨L, d, _, rfl, _⟩; rfl) (fun cdv A outer s H E hr => ?_)
  rintro _ _ ⟨L, d, hL, rfl, (⟨h, rfl⟩ | ⟨h, rfl⟩)⟩ G0 H0 hE tk
  · exact ss_bz (bz_ifT ((t_not (t_val (w_call D1 hr (ws_cons (w_var 0) (ws_one (w_var 1))) ⟨_, _, hL, rfl, rfl⟩))).to (by rw [h]; rfl)) (bz_raise B rfl tk hr w_str)) fun d G' H' σ n hd => hE _ rfl d G' H' n hd
  · exact ss_ifN ((t_not (t_val (w_call D1 hr (ws_cons (w_var 0) (ws_one (w_var 1))) ⟨_, _, hL, rfl, rfl⟩))).to (by rw [h]; rfl)) (Ss.post ss_nil (end_ok rfl))
theorem d_chkS (T : Txt K mg) (B : Bad P w K mg base C) (D1 : Def P w K mg base (L2.CX P w) 5 "check_list" ["listed", "name"] (spX C FChkL)) (D2 : Def P w K mg base CX0 3 "is_set" ["listed", "value"] (spF FSet)) (Fn : Fun K "check_sets" "check_sets" sChkS f fd) (hm : mg "check_sets" = some (.ref f)) (hb : Binds K fd ["listed", "chosen", "avoided"] []) : Def P w K mg base (L2.CX P w) 6 "check_sets" ["listed", "chosen", "avoided"] (spX C FChkS) := by
  refine def_ofX Fn hm hb scChkS (by rintro _ _ ⟨dl, dc, da, r, rfl, _⟩; rfl) (fun cdv A outer s H E hr => ?_)
  rintro _ o ⟨dl, dc, da, r, rfl, hc, ho⟩ G0 H0 hE tk
  have hr3 := hr.mono (j := 3) (by decide)
  have hr2 := hr.mono (j := 2) (by decide)
  cases hc with
  | listed h =>
    subst ho
    exact ss_bz (bz_callE D1 hr tk (ws_cons (w_var 0) (ws_one w_str)) (.inl ⟨_, _, rfl, h, rfl⟩)) fun d G' H' σ n hd => hE _ rfl d G' H' n hd
  | @chosen L _ _ hL hz h =>
    subst ho
    refine ss_expr (w_callG D1.ok hr passL (ws_cons (w_var (s := .da (encL L)) 0) (ws_one w_str)) (by rintro _ rfl; exact .inr ⟨L, _, hL, rfl, rfl⟩)) ?_
    exact ss_bz (bz_ifT ((t_not (t_val (w_call D2 hr3 (ws_cons (w_var 0) (ws_one (w_var 1))) ⟨_, _, hL, hz, rfl, rfl⟩))).to (by rw [h]; rfl)) (bz_raise B rfl tk hr2 w_str)) fun d G' H' σ n hd => hE _ rfl d G' H' n hd
  | @avoided L S _ hL hS hz h =>
    subst ho
    refine ss_expr (w_callG D1.ok hr passL (ws_cons (w_var (s := .da (encL L)) 0) (ws_one w_str)) (by rintro _ rfl; exact .inr ⟨L, _, hL, rfl, rfl⟩)) ?_
    refine ss_ifN ((t_not (t_val (w_call D2 hr3 (ws_cons (w_var 0) (ws_one (w_var 1))) ⟨_, _, hL, by rw [its_encS]; exact hS.1.1, rfl, rfl⟩))).to (by rw [hS.2]; rfl)) ?_
    exact ss_bz (bz_ifT ((t_not (t_val (w_call D2 hr3 (ws_cons (w_var 0) (ws_one (w_var 2))) ⟨_, _, hL, hz, rfl, rfl⟩))).to (by rw [h]; rfl)) (bz_raise B rfl tk hr2 w_str)) fun d G' H' σ n hd => hE _ rfl d G' H' n hd
  | @good L S A hL hS hA =>
    refine ss_expr (w_callG D1.ok hr passL (ws_cons (w_var (s := .da (encL L)) 0) (ws_one w_str)) (by rintro _ rfl; exact .inr ⟨L, _, hL, rfl, rfl⟩)) ?_
    refine ss_ifN ((t_not (t_val (w_call D2 hr3 (ws_cons (w_var 0) (ws_one (w_var 1))) ⟨_, _, hL, by rw [its_encS]; exact hS.1.1, rfl, rfl⟩))).to (by rw [hS.2]; rfl)) ?_
    exact ss_ifN ((t_not (t_val (w_call D2 hr3 (ws_cons (w_var 0) (ws_one (w_var 2))) ⟨_, _, hL, by rw [its_encS]; exact hA.1.1, rfl, rfl⟩))).to (by rw [hA.2]; rfl)) (Ss.post ss_nil (end_ok ho))
theorem d_count (T : Txt K mg) (D1 : Def P w K mg base (L2.CX P w) 6 "check_sets" ["listed", "chosen", "avoided"] (spX C FChkS)) (D2 : Def P w K mg base CX0 3 "fitting" ["listed", "chosen", "avoided"] (spF FFitting)) (Fn : Fun K "count_cases" "count_cases" sCount f fd) (hm : mg "count_cases" = some (.ref f)) (hb : Binds K fd ["listed", "chosen", "avoided"] []) : Def P w K mg base (L2.CX P w) 7 "count_cases" ["listed", "chosen", "avoided"] (spX C FCount) := by
  refine def_ofX Fn hm hb scCount (by rintro _ _ (⟨dl, dc, da, nm, rfl, _⟩ | ⟨L, S, A, _, _, _, rfl, _⟩) <;> rfl) (fun cdv A outer s H E hr => ?_)
  rintro _ _ (⟨dl, dc, da, nm, rfl, hc, rfl⟩ | ⟨L, S, B, hL, hS, hB, rfl, rfl⟩) G0 H0 hE tk
  · exact ss_bz (bz_callE D1 hr tk (ws_cons (w_var 0) (ws_cons (w_var 1) (ws_one (w_var 2)))) ⟨_, _, _, _, rfl, hc, rfl⟩) fun d G' H' σ n hd => hE _ rfl d G' H' n hd
  · refine ss_expr (w_callG D1.ok hr passL (ws_cons (w_var (s := .da (encL L)) 0) (ws_cons (w_var (s := .da (encS S)) 1) (ws_one (w_var (s := .da (encS B)) 2)))) (by rintro _ rfl; exact ⟨_, _, _, none, rfl, .good hL hS hB, rfl⟩)) ?_
    refine ss_ret ((w_lenL (w_call D2 (hr.mono (by decide)) (ws_cons (w_var 0) (ws_cons (w_var 1) (ws_one (w_var 2)))) ⟨_, _, _, hL, hS.1, hB.1, rfl, rfl⟩) T.len).to (by rw [List.length_map])) ?_
    rintro _ rfl
    exact ⟨_, rfl, rfl⟩
theorem d_nth (T : Txt K mg) (B : Bad P w K mg base C) (D1 : Def P w K mg base (L2.CX P w) 6 "check_sets" ["listed", "chosen", "avoided"] (spX C FChkS)) (D2 : Def P w K mg base CX0 3 "fitting" ["listed", "chosen", "avoided"] (spF FFitting)) (D3 : Def P w K mg base CX0 1 "is_between" ["value", "low", "high"] (spF FBetween)) (Fn : Fun K "nth_case" "nth_case" sNth f fd) (hm : mg "nth_case" = some (.ref f)) (hb : Binds K fd ["listed", "chosen", "avoided", "index"] []) : Def P w K mg base (L2.CX P w) 7 "nth_case" ["listed", "chosen", "avoided", "index"] (spX C FNth) := by
  refine def_ofX Fn hm hb scNth (by rintro _ _ (⟨dl, dc, da, di, nm, rfl, _⟩ | ⟨L, S, A, di, _, _, _, rfl, _⟩) <;> rfl) (fun cdv A outer s H E hr => ?_)
  rintro _ o (⟨dl, dc, da, di, nm, rfl, hc, rfl⟩ | ⟨L, S, Av, di, hL, hS, hA, rfl, ho⟩) G0 H0 hE tk
  · exact ss_bz (bz_callE D1 hr tk (ws_cons (w_var 0) (ws_cons (w_var 1) (ws_one (w_var 2)))) ⟨_, _, _, _, rfl, hc, rfl⟩) fun d G' H' σ n hd => hE _ rfl d G' H' n hd
  · refine ss_expr (w_callG D1.ok hr passL (ws_cons (w_var (s := .da (encL L)) 0) (ws_cons (w_var (s := .da (encS S)) 1) (ws_one (w_var (s := .da (encS Av)) 2)))) (by rintro _ rfl; exact ⟨_, _, _, none, rfl, .good hL hS hA, rfl⟩)) ?_
    refine ss_setD 4 (w_call D2 (hr.mono (by decide)) (ws_cons (w_var 0) (ws_cons (w_var 1) (ws_one (w_var 2)))) ⟨_, _, _, hL, hS.1, hA.1, rfl, rfl⟩) ?_ scNth.nd
    rcases ho with ⟨h, rfl⟩ | ⟨i, c, rfl, hi, rfl⟩
    · exact ss_bz (bz_ifT ((t_not (t_val (w_call D3 (hr.mono (by decide)) (ws_cons (w_var 3) (ws_cons w_int (ws_one (w_sub ((w_lenL (w_var 4) T.len).to (by rw [List.length_map])) w_int)))) ⟨_, _, _, rfl, rfl⟩))).to (by show (!isBetween di 0 (((due L S Av).length : Int) - 1)) = true; rw [h]; rfl)) (bz_raise B rfl tk (hr.mono (by decide)) w_str)) fun d G' H' σ n hd => hE _ rfl d G' H' n hd
    · have hlt := (List.getElem?_eq_some_iff.mp hi).1
      refine ss_ifN ((t_not (t_val (w_call D3 (hr.mono (by decide)) (ws_cons (w_var 3) (ws_cons w_int (ws_one (w_sub ((w_lenL (w_var 4) T.len).to (by rw [List.length_map])) w_int)))) ⟨_, _, _, rfl, rfl⟩))).to (by show (!isBetween (.int (i : Int)) 0 (((due L S Av).length : Int) - 1)) = false; rw [between_t (by omega) (by omega)]; rfl)) ?_
      refine ss_ret (w_ix (f := encC c) (w_var 4) (w_var 3) rfl (atI_nat (by rw [List.getElem?_map]; show Option.map encC ((due L S Av)[i]?) = _; rw [hi]; rfl))) ?_
      rintro _ rfl
      exact ⟨_, rfl, rfl⟩
theorem d_idx (T : Txt K mg) (B : Bad P w K mg base C) (D1 : Def P w K mg base (L2.CX P w) 6 "check_sets" ["listed", "chosen", "avoided"] (spX C FChkS)) (D2 : Def P w K mg base CX0 3 "fitting" ["listed", "chosen", "avoided"] (spF FFitting)) (D3 : Def P w K mg base (L2.CX P w) 3 "check_case" ["listed", "case"] (spX C FChkC)) (D4 : Def P w K mg base CX0 2 "does_fit" ["listed", "chosen", "avoided", "case"] (spF FFit))
    (Fn : Fun K "index_of_case" "index_of_case" sIdx f fd) (hm : mg "index_of_case" = some (.ref f)) (hb : Binds K fd ["listed", "chosen", "avoided", "case"] []) : Def P w K mg base (L2.CX P w) 7 "index_of_case" ["listed", "chosen", "avoided", "case"] (spX C FIdx) := by
  refine def_ofX Fn hm hb scIdx (by rintro _ _ (⟨dl, dc, da, di, nm, rfl, _⟩ | ⟨L, S, A, di, _, _, _, rfl, _⟩) <;> rfl) (fun cdv A outer s H E hr => ?_)
  rintro _ o (⟨dl, dc, da, di, nm, rfl, hc, rfl⟩ | ⟨L, S, Av, dx, hL, hS, hA, rfl, ho⟩) G0 H0 hE tk
  · exact ss_bz (bz_callE D1 hr tk (ws_cons (w_var 0) (ws_cons (w_var 1) (ws_one (w_var 2)))) ⟨_, _, _, _, rfl, hc, rfl⟩) fun d G' H' σ n hd => hE _ rfl d G' H' n hd
  · refine ss_expr (w_callG D1.ok hr passL (ws_cons (w_var (s := .da (encL L)) 0) (ws_cons (w_var (s := .da (encS S)) 1) (ws_one (w_var (s := .da (encS Av)) 2)))) (by rintro _ rfl; exact ⟨_, _, _, none, rfl, .good hL hS hA, rfl⟩)) ?_
    rcases ho with ⟨h, rfl⟩ | ⟨c, rfl, hc, hcs, ho⟩
    · exact ss_bz (bz_callE D3 (hr.mono (by decide)) tk (ws_cons (w_var 0) (ws_one (w_var 3))) ⟨_, _, hL, rfl, .inl ⟨h, rfl⟩⟩) fun d G' H' σ n hd => hE _ rfl d G' H' n hd
    · have hl := casesM_len hc
      refine ss_expr (w_callG D3.ok (hr.mono (by decide)) passL (ws_cons (w_var (s := .da (encL L)) 0) (ws_one (w_var (s := .da (encC c)) 3))) (by rintro _ rfl; exact ⟨_, _, hL, rfl, .inr ⟨hcs, rfl⟩⟩)) ?_
      rcases ho with ⟨h, rfl⟩ | ⟨h, rfl⟩
      · refine ss_ifR ((t_not (t_val (w_call D4 (hr.mono (by decide)) (ws_cons (w_var 0) (ws_cons (w_var 1) (ws_cons (w_var 2) (ws_one (w_var 3))))) ⟨_, _, _, _, hL, hS.1, hA.1, hl, rfl, rfl⟩))).to (by rw [h]; rfl)) (ss_ret w_non ?_)
        rintro _ rfl
        exact ⟨_, rfl, rfl⟩
      · refine ss_ifN ((t_not (t_val (w_call D4 (hr.mono (by decide)) (ws_cons (w_var 0) (ws_cons (w_var 1) (ws_cons (w_var 2) (ws_one (w_var 3))))) ⟨_, _, _, _, hL, hS.1, hA.1, hl, rfl, rfl⟩))).to (by rw [h]; rfl)) ?_
        refine ss_ret (w_index (l := due L S Av) (w_call D2 (hr.mono (by decide)) (ws_cons (w_var 0) (ws_cons (w_var 1) (ws_one (w_var 2)))) ⟨_, _, _, hL, hS.1, hA.1, rfl, rfl⟩) (w_var 3) (List.mem_filter.mpr ⟨hc, h⟩) hr.u65) ?_
        rintro _ rfl
        exact ⟨_, rfl, rfl⟩
end
end Fc
/-! FcN: sorted of tuples of ints, of a tuple of ints, of a dict whose keys are tuples of ints. -/
namespace Fs
open PySem PyProof.Rows Srt
/-- v is a tuple of these ints -/
def IsIT (h : Heap) (v : Value) (ns : List Int) : Prop := ∃ (a : Addr) (o : Obj) (xs : Array Value) (n : Nat), v = .ref a ∧ h.get? a = some o ∧ o.cls = .type "tuple" ∧ o.data = .seq xs n ∧ IntsAre xs.toList ns
theorem IsIT.keeps {h h' : Heap} {v : Value} {ns : List Int} (x : IsIT h v ns) (k : ∀ b o, h.get? b = some o → o.cls = .type "tuple" → h'.get? b = some o) : IsIT h' v ns := by
  obtain ⟨a, o, xs, n, e, g, c, d, i⟩ := x
  exact ⟨a, o, xs, n, e, k _ _ g c, c, d, i⟩
section
variable {prog : Program} {w : World} {A : Around} {E : Value → Shared → Prop} {s : Shared}
theorem lex_ints (b : Bool) : ∀ {xs ys : List Value} {ns ms : List Int} {i N M : Nat}, IntsAre xs ns → IntsAre ys ms → ns.length + M = ms.length + N →
    PySem.W.KatLex prog w A b (decide (N < M)) (fun r s' => s' = s ∧ r = HT.lexLt ns ms) (xs.zip ys) i s
  | _, _, _, _, i, N, M, .nil, .nil, e => by
    simp only [List.length_nil] at e
    exact PySem.W.kat_nil ⟨rfl, by rw [HT.lexLt_nil_nil, decide_eq_false (by omega)]⟩
  | _, _, _, _, i, N, M, .nil, .cons c u h, e => by
    simp only [List.length_nil, List.length_cons] at e
    exact PySem.W.kat_nil ⟨rfl, by rw [HT.lexLt_nil_cons, decide_eq_true (by omega)]⟩
  | _, _, _, _, i, N, M, .cons c u h, .nil, e => by
    simp only [List.length_nil, List.length_cons] at e
    exact PySem.W.kat_nil ⟨rfl, by rw [HT.lexLt_cons_nil, decide_eq_false (by omega)]⟩
  | _, _, _, _, i, N, M, .cons x t h, .cons y u h', e => by
    simp only [List.length_cons] at e
    rw [List.zip_cons_cons]
    refine PySem.W.kat_cons (SeqAt.EqAt.int_int x t y u prog w _ _ ?_)
    refine PySem.W.kat_go (fun e1 => ?_) (fun e1 => ?_)
    · have ex : x = y := by simpa using e1
      rw [HT.lexLt_cons, if_pos ex]
      exact PySem.W.kat_yes (lex_ints b h h' (by omega))
    · have ex : ¬ x = y := by simpa using e1
      rw [HT.lexLt_cons, if_neg ex]
      refine PySem.W.kat_no ?_
      cases (b && i == 0) with
      | true => exact oneLt_int ⟨rfl, rfl⟩
      | false => exact PySem.W.kat_one _ _ (PyProof.Rows.lt_int (show s = s ∧ _ from ⟨rfl, rfl⟩))
theorem tot_tuples {vs : List Value} (b : Bool) (hp : ∀ v ∈ vs, ∃ ns, IsIT s.heap v ns) : Tot prog w A s (tuples' b) (fun p => p.1 ∈ vs) := by
  intro p q hm hm'
  obtain ⟨ns, a, o, xs, n, e, g, c, d, hi⟩ := hp _ hm
  obtain ⟨ms, a', o', xs', n', e', g', c', d', hi'⟩ := hp _ hm'
  rw [e, e']
  refine ⟨HT.lexLt ns ms, PySem.W.kat_lt g d g' d' ?_⟩
  have z1 : xs.size = ns.length := by rw [← hi.length]; simp
  have z2 : xs'.size = ms.length := by rw [← hi'.length]; simp
  exact lex_ints b hi hi' (by omega)
theorem keyLt_general (x y : Value) : keyLt' general' x y = oneLt' false x y := rfl
theorem tot_general {vs : List Value} (hu : A.units < cLine) (hp : ∀ v ∈ vs, ∃ ns, IsIT s.heap v ns) : Tot prog w A s general' (fun p => p.1 ∈ vs) := by
  intro p q hm hm'
  obtain ⟨ns, a, o, xs, n, e, g, c, d, hi⟩ := hp _ hm
  obtain ⟨ms, a', o', xs', n', e', g', c', d', hi'⟩ := hp _ hm'
  rw [e, e']
  refine ⟨HT.lexLt ns ms, ?_⟩
  rw [keyLt_general]
  exact PySem.W.kat_one _ _ (HT.lt_tupInts ⟨o, g, c, n, d⟩ ⟨o', g', c', n', d'⟩ hi hi' hu (show s = s ∧ _ from ⟨rfl, rfl⟩))
theorem tot_one {vs : List Value} (hu : A.units < cLine) (hp : ∀ v ∈ vs, ∃ ns, IsIT s.heap v ns) : Tot prog w A s oneType' (fun p => p.1 ∈ vs) := by
  intro p q hm hm'
  obtain ⟨ns, a, ⟨cl, dd, da, sl⟩, xs, n, e, g, c, d, hi⟩ := hp _ hm
  obtain ⟨ms, a', ⟨cl', dd', da', sl'⟩, xs', n', e', g', c', d', hi'⟩ := hp _ hm'
  simp only at c d c' d'
  subst c d c' d'
  rw [e, e']
  refine ⟨HT.lexLt ns ms, ?_⟩
  rw [keyLt'_oneType, oneLt'_eq]
  simp only [if_true]
  refine wpAny_bind (wpAny_cRoomFor hu ?_)
  have hT : s.TypeIs (.ref a) "tuple" := ⟨_, g, rfl⟩
  refine wpAny_bind (wpAny_callSpecialIfBound?_slot hT PySem.F.slot_tuple_lt (call_meets PySem.F.slot_tuple_lt hT PySem.F.entry_tuple_lt (PySem.F.args_tuple_lt_2 _ _) (HT.tuple_lt_ints a a' xs xs' n n' dd dd' sl sl' ns ms hi hi') ⟨g, g', ?_⟩))
  exact wpAny_truthy_bool ⟨rfl, rfl⟩
/-- what the first look finds -/
theorem firsts_any : ∀ {vs : List Value}, (∀ v ∈ vs, ∃ ns, IsIT s.heap v ns) → ∃ fs : List (Option Value), (fs.all (fun x => x.isSome) = true → ∀ v ∈ vs, ∃ n ns, IsIT s.heap v (n :: ns)) ∧ ∀ (M : Model) (A : Around) (E : Value → Shared → Prop) (Q : List (Option Value) → Shared → Prop), Q fs s → wpAny M A (vs.mapM firstOfTuple') Q E s
  | [], _ => ⟨[], fun _ _ hm => by simp at hm, fun M A E Q h => by rw [List.mapM_nil]; exact wpAny_pure h⟩
  | v :: vs, hp => by
    obtain ⟨fs, h1, h2⟩ := firsts_any (vs := vs) fun v' hm => hp v' (List.mem_cons_of_mem _ hm)
    obtain ⟨ns, a, o, xs, n, e, g, c, d, hi⟩ := hp v (List.mem_cons_self ..)
    subst e
    refine ⟨xs[0]? :: fs, fun hall v' hm => ?_, fun M A E Q h => ?_⟩
    · rw [List.all_cons, Bool.and_eq_true] at hall
      rcases List.mem_cons.mp hm with rfl | hm
      · cases ns with
        | cons n ns => exact ⟨n, ns, a, o, xs, _, rfl, g, c, d, hi⟩
        | nil =>
          have z : xs.size = 0 := by
            have := hi.length
            simpa using this
          have q := hall.1
          rw [Array.getElem?_eq_none (by omega)] at q
          cases q
      · exact h1 hall.2 v' hm
    rw [List.mapM_cons]
    refine wpAny_bind ?_
    rw [PySem.W.kas_first_eq]
    refine wpAny_bind (PySem.W.Looks.here (show PySem.W.Looks M s.heap (typeOf (.ref a)) o.cls from (PySem.W.Looks.ld g).andThen .now) ?_)
    rw [c, if_neg (by first | decide | simp)]
    refine wpAny_bind (listItems_at g d (wpAny_pure ?_))
    exact wpAny_bind (h2 M A E (fun bs s' => wpAny M A (pure (xs[0]? :: bs)) Q E s') (wpAny_pure h))
theorem types_tup {vs : List Value} (hp : ∀ v ∈ vs, ∃ ns, IsIT s.heap v ns) {M : Model} {A : Around} {E : Value → Shared → Prop} {Q : List Value → Shared → Prop} (h : Q (vs.map fun _ => Value.type "tuple") s) : wpAny M A (vs.mapM typeOf) Q E s :=
  PySem.W.kas_mapM (r := Value.type "tuple") vs (fun v hv Q' hq => by
    obtain ⟨ns, a, o, xs, n, e, g, c, d, hi⟩ := hp v hv
    subst e
    exact PySem.W.Looks.here (show PySem.W.Looks M s.heap (typeOf (.ref a)) (.type "tuple") by
      rw [← c]
      exact (PySem.W.Looks.ld g).andThen .now) hq) h
theorem kind_any {vs : List Value} (h2 : 2 ≤ vs.length) (hp : ∀ v ∈ vs, ∃ ns, IsIT s.heap v ns) : ∃ κ : SortKind, (κ = general' ∨ κ = oneType' ∨ ∃ b, κ = tuples' b) ∧
    ∀ (A : Around) (Q : SortKind → Shared → Prop) (E : Value → Shared → Prop), Q κ s → wpAny (model prog w) A (keyKind' vs.toArray) Q E s := by
  by_cases hne : ∀ v ∈ vs, ∃ n ns, IsIT s.heap v (n :: ns)
  · have fs : ∀ {l : List Value}, (∀ v ∈ l, ∃ n ns, IsIT s.heap v (n :: ns)) → ∃ fs : List Value, PySem.W.KatTups s.heap l fs ∧ fs.length = l.length ∧ ∀ f ∈ fs, ∃ x t, f = Value.int x t := by
      intro l
      induction l with
      | nil => exact fun _ => ⟨[], PySem.W.KatTups.nil, rfl, fun _ hm => by simp at hm⟩
      | cons v l ih =>
        intro hl
        obtain ⟨fs, h1, h2, h3⟩ := ih fun v' hm => hl v' (List.mem_cons_of_mem _ hm)
        obtain ⟨n, ns, a, o, xs, k, e, g, c, d, hi⟩ := hl v (List.mem_cons_self ..)
        subst e
        obtain ⟨l⟩ := xs
        generalize el : (Array.mk l).toList = l' at hi
        have el' : l = l' := el
        subst el'
        cases hi with
        | cons _ t r =>
          refine ⟨.int n t :: fs, PySem.W.KatTups.cons g c d rfl h1, by rw [List.length_cons, List.length_cons, h2], fun f hm => ?_⟩
          rcases List.mem_cons.mp hm with rfl | hm
          · exact ⟨n, t, rfl⟩
          · exact h3 f hm
    obtain ⟨fs, k1, k2, k3⟩ := fs hne
    refine ⟨tuples' (Value.type "int" != Value.type "tuple"), .inr (.inr ⟨_, rfl⟩), fun A Q E hq => ?_⟩
    exact PySem.W.kat_kind (T := .type "int") k1 (by omega) (fun f hm => by
      obtain ⟨x, t, rfl⟩ := k3 f hm
      exact PySem.W.Looks.now) (by rfl) hq
  · obtain ⟨fs, h1, hf⟩ := firsts_any hp
    by_cases hall : (fs.toArray.all fun x => x.isSome) = true
    · exact absurd (h1 (by rw [← List.all_toArray]; exact hall)) hne
    · refine ⟨if (fs.toArray[0]?.bind id).isSome = true then general' else oneType', ?_, fun A Q E hq => ?_⟩
      · split
        · exact .inl rfl
        · exact .inr (.inl rfl)
      · rw [kat_kind_eq, List.mapM_toArray, map_eq_pure_bind]
        refine wpAny_bind (wpAny_bind (hf _ _ _ _ (wpAny_pure ?_)))
        rw [if_neg hall]
        split
        · rename_i hs
          rw [if_pos hs] at hq
          exact wpAny_pure hq
        · rename_i hs
          rw [if_neg hs] at hq
          rw [oneTypeOnly'_eq, List.mapM_toArray, map_eq_pure_bind]
          refine wpAny_bind (wpAny_bind (wpAny_bind (types_tup hp (wpAny_pure ?_))))
          have hall2 : ((List.map (fun _ => Value.type "tuple") vs).toArray.all fun x => x == Value.type "tuple") = true := by
            simp only [List.all_toArray, List.all_map, List.all_eq_true]
            intro _ _
            rfl
          have h0 : (List.map (fun _ => Value.type "tuple") vs).toArray[0]? = some (Value.type "tuple") := by
            match vs, h2 with
            | _ :: _, _ => rfl
          rw [h0]
          simp only [hall2, if_true]
          exact wpAny_pure (wpAny_pure hq)
theorem its_sortable {a : Addr} {vs : List Value} (hu : A.units < cLine) (h2 : 2 ≤ vs.length) (hp : ∀ v ∈ vs, ∃ ns, IsIT s.heap v ns) (ha : ∀ o, s.heap.get? a = some o → o.cls ≠ .type "tuple") : Sortable prog w A s a vs := by
  intro h' keep
  have hp' : ∀ v ∈ vs, ∃ ns, IsIT h' v ns := fun v hm => by
    obtain ⟨ns, p⟩ := hp v hm
    exact ⟨ns, p.keeps fun b o e c => keep b o (fun z => by subst z; exact ha o e c) e⟩
  obtain ⟨κ, hk, hq⟩ := kind_any (prog := prog) (w := w) (s := { s with heap := h' }) h2 hp'
  refine ⟨κ, fun Q E h => hq A Q E h, ?_⟩
  rcases hk with rfl | rfl | ⟨b, rfl⟩
  · exact tot_general (s := { s with heap := h' }) hu hp'
  · exact tot_one (s := { s with heap := h' }) hu hp'
  · exact tot_tuples (s := { s with heap := h' }) b hp'
/-- the heap with a new list of these -/
def gathered (h : Heap) (its : List Value) : Heap := (h.push (seqObj "list" #[] 0)).update h.objs.size (Obj.mapSeq (· ++ its.toArray))
end
section
variable {P : Program} {W : World} {B : Around} {Er : Value → Shared → Prop} {z : Shared}
/-- the items of a tuple, gathered -/
theorem collect_tup {t : Addr} {its : List Value} {Qr : List Value → Shared → Prop} (ht : IsTup z.heap t its.toArray) (hz : its.length ≤ sizeLine) (k : Qr its { z with heap := gathered z.heap its }) : wpAny (model P W) B (collect (.ref t)) Qr Er z := by
  have new0 : (z.heap.push (seqObj "list" #[] 0)).get? z.heap.objs.size = some (seqObj "list" #[] 0) := Heap.get?_push_size _ rfl
  obtain ⟨ot, gt, ct, nt, dt⟩ := ht
  have gt' := Heap.get?_push_of_some (seqObj "list" #[] 0) gt
  have tt : (Value.type "tuple" == Value.type "tuple") = true := rfl
  have e0 : (#[] ++ its.toArray : Array Value) = its.toArray := by simp
  unfold collect
  refine wpAny_bind (wpAny_runValue (codeAny_builtin entry_proto_collect' (wpAny_bind (wpAny_newList (wpAny_pure ⟨Code.quiet_builtin _ (by decide +kernel), codeAny_builtin entry_list_iadd' (?_ : wpAny _ _ (Builtin.List.listExtendWith (.ref z.heap.objs.size) (.ref t) (.ref z.heap.objs.size)) _ _ { z with heap := z.heap.push (seqObj "list" #[] 0) })⟩)))))
  unfold Builtin.List.listExtendWith
  refine wpAny_bind (wpAny_typeOf (T := "tuple") ⟨ot, gt', ct⟩ ?_)
  rw [if_pos (by simp [tt])]
  refine wpAny_bind (listItems_at gt' dt (wpAny_bind (listItems_at new0 rfl ?_)))
  rw [if_neg (by simp)]
  refine wpAny_bind (listUpdate_at new0 rfl (wpAny_pure (wpAny_bind (wpAny_load (get?_update_seq new0 _) ?_))) (Nat.zero_le _) (by rw [e0, List.size_toArray]; exact Nat.le_succ_of_le hz))
  show wpAny _ _ (pure (#[] ++ its.toArray : Array Value).toList) _ _ { z with heap := gathered z.heap its }
  rw [e0]
  exact wpAny_pure k
theorem sorted_tup {t : Addr} {its : List Value} {below : Value → Value → Bool} {Qr : Value → Shared → Prop} (O : SrtO.Swo below) (ht : IsTup z.heap t its.toArray) (hz : its.length ≤ sizeLine)
    (can : 2 ≤ its.length → ∀ (h1 : Heap) (b : Addr), SrtO.SortableO P W B.in1.in1 { z with heap := h1 } b its below)
    (k : ∀ res : List Value, SrtO.Srtd below res → SrtO.Stb below res its → Qr (.ref (z.heap.objs.size + 1)) { z with heap := sortedAll z.heap its res.toArray }) : wpAny (model P W) B (call (.builtin "sorted") [.ref t]) Qr Er z := by
  have gz : (gathered z.heap its).objs.size = z.heap.objs.size + 1 := by unfold gathered; rw [Heap.size_update, PyProof.Rows.size_push']
  have gl : ((gathered z.heap its).push (seqObj "list" its.toArray 0)).get? (z.heap.objs.size + 1) = some (seqObj "list" its.toArray 0) := gz ▸ Heap.get?_push_size (gathered z.heap its) (o := seqObj "list" its.toArray 0) rfl
  refine Calls.call_function_entry kind_sorted plain_sorted entry_sorted (args_sorted1 _) (wpAny_bind (m := checkCount "sorted" 1 1 _) (wpAny_pure (wpAny_bind (collect_tup ht hz (wpAny_bind (wpAny_newList (?_ : wpAny _ _ _ _ _ { z with heap := (gathered z.heap its).push (seqObj "list" its.toArray 0) }) hz))))))
  rw [gz]
  refine wpAny_bind (wpAny_holding (wpAny_call_entry slot_list_sort ⟨_, gl, rfl⟩ entry_list_sort (SrtO.list_sort_ord O gl hz (fun two => can two _ _) fun res r1 r2 => ⟨_, rfl, wpAny_pure ⟨_, rfl, k res r1 r2⟩⟩) (args_list_sort _)))
end
end Fs
namespace L2
open PySem PySem.Spec PyProof.Rows
/-- sorted(t), t a tuple of ints -/
def rSortedT (K : PySem.W.Frag) : List V → Hp → VK → Prop := fun vs H Q => ∃ (a : Addr) (ns : List Int), vs = [V.ref a] ∧ SqT K H a (ns.map V.int) ∧
  ∀ (ns' : List Int) (p : Addr), ns'.Perm ns → ns'.Pairwise (· ≤ ·) → H p = none → Q (.ref p) (upd H p (.lst (ns'.map V.int)))
/-- sorted(d), the keys of d tuples of ints -/
def rSortedD : List V → Hp → VK → Prop := fun vs H Q => ∃ (d : Addr) (kvs : List (List Key × V)), vs = [V.ref d] ∧ H d = some (.dT kvs) ∧ (∀ p ∈ kvs, ∃ ns : List Int, p.1 = ns.map Sum.inl) ∧
  ∀ (zs : List ((List Key × V) × Addr)) (p : Addr), H p = none → (zs.map (·.1)).Perm kvs → (∀ z ∈ zs, H z.2 = some (.tup (z.1.1.map kV))) → Q (.ref p) (upd H p (.lst (zs.map fun z => V.ref z.2)))
section
variable {X : Cx}
theorem cr_sortedT : CallR X (.builtin "sorted") (rSortedT X.K) := by
  rintro pins z σ H _ us Q I r ⟨t, ns, rfl, st, q⟩
  obtain ⟨its, ri, tp, len⟩ := I.tuple st
  rw [Vals.ref1 r]
  have iz : its.length ≤ sizeLine := ri.length ▸ len
  refine Fs.sorted_tup SrtO.swo_int tp iz (fun two h1 b => SrtO.ints_sortable ri.ints two) fun res r1 r2 => ?_
  obtain ⟨w1, w2, w3⟩ := SrtO.ints_out ri.ints r1 r2
  generalize hm : res.map SrtO.iv = ms at w1 w2 w3
  obtain ⟨n0, at0⟩ := PyProof.Rows.sortedAll_at z.heap its res.toArray
  have fr : H (z.heap.objs.size + 1) = none := I.hok.fresh (Nat.le_succ _)
  have J := I.laid (t' := z.toks) (a := z.heap.objs.size + 1) (o := .lst (ms.map V.int)) (h' := sortedAll z.heap its res.toArray) (fun b u g => PyProof.Rows.sortedAll_old g) (Nat.le_succ _) ⟨by rw [List.length_map, w2.length_eq]; simpa using len, res, n0, vals_of_ints w1, at0⟩
  exact ⟨.ref (z.heap.objs.size + 1), _, J, rfl, q ms _ w2 w3 fr⟩
theorem zip_snds {α β γ : Type} (f : β → γ) : ∀ (as : List α) (bs : List β), as.length = bs.length → (as.zip bs).map (fun z => f z.2) = bs.map f
  | [], [], _ => rfl
  | [], _ :: _, h => by simp at h
  | _ :: _, [], h => by simp at h
  | a :: as, b :: bs, h => by
    rw [List.zip_cons_cons, List.map_cons, List.map_cons, zip_snds f as bs (by simpa using h)]
theorem paired_zip {α β : Type} {F : α → β → Prop} : ∀ {as : List α} {bs : List β}, Paired F as bs → ∀ z ∈ as.zip bs, F z.1 z.2
  | _, _, .nil, z, h => by simp at h
  | _, _, .cons h t, z, hz => by
    rw [List.zip_cons_cons] at hz
    rcases List.mem_cons.mp hz with rfl | hz
    · exact h
    · exact paired_zip t z hz
/-- the keys gathered from a dict are the key tuples in order -/
theorem keys_are {P : Program} {w : World} {es : Array DictEntry} {ks : List (List Key × Addr × Value)} {acc : Array Value} (he : es.toList = ks.map (entryOfKey (tupleKind (mixKind P w)))) (hs : acc.size = es.size) (hi : ∀ (j : Nat) (v : Value), acc[j]? = some v → ∃ en : DictEntry, es[j]? = some en ∧ v = en.key) :
    acc.toList = (ks.map fun x => x.2.1).map Value.ref := by
  have l1 : es.size = ks.length := size_of_entries he
  refine List.ext_getElem (by rw [Array.length_toList, List.length_map, List.length_map, hs, l1]) fun j h1 h2 => ?_
  have hj : j < ks.length := by rw [List.length_map, List.length_map] at h2; exact h2
  obtain ⟨en, g1, g2⟩ := hi j (acc.toList[j]) (by rw [← Array.getElem?_toList]; exact List.getElem?_eq_getElem h1)
  have g3 := entry_at he j
  rw [g1, List.getElem?_eq_getElem hj] at g3
  obtain rfl : en = entryOfKey (tupleKind (mixKind P w)) ks[j] := Option.some.inj g3
  rw [g2, List.getElem_map, List.getElem_map]
  rfl
theorem key_mem {H : Hp} {b : Addr} : ∀ {as : List (List Key × V)} {bs : List Addr}, IsKeys H as bs → b ∈ bs → ∃ p ∈ as, H b = some (.tup (p.1.map kV))
  | _, _, .cons h t, hb => by
    rcases List.mem_cons.mp hb with rfl | hb
    · exact ⟨_, List.mem_cons_self, h⟩
    · obtain ⟨p, hp, e⟩ := key_mem t hb
      exact ⟨p, List.mem_cons_of_mem _ hp, e⟩
theorem cr_sortedDT (calm : X.calm = true) (hu : X.A.units + 8 < cLine) : CallR X (.builtin "sorted") rSortedD := by
  rintro pins z σ H _ us Q I r ⟨d, kvs, rfl, hd, hk, q⟩
  rw [Vals.ref1 r]
  obtain ⟨few, lo, ks, pr, od, es, ep, gd, xd, dd, he, _⟩ := (show ObjOk X.prog X.w H z.heap d (.dT kvs) from I.hok d _ hd)
  have pk : IsKeys H kvs (ks.map fun x => x.2.1) := isKeys_of pr
  have lk : kvs.length = (ks.map fun x => x.2.1).length := Paired.length pk
  refine Calls.call_function_entry kind_sorted plain_sorted entry_sorted (args_sorted1 _) (wpAny_bind (m := checkCount "sorted" 1 1 _) (wpAny_pure (wpAny_bind (PySem.W.kdu_collect (A := X.A.in1) (kdl_raw lo xd dd) (I.ok.hd calm) gd (by rw [size_of_entries he, ← Paired.length pr]; exact few) fun h1 t1 acc kp io => ?_))))
  have ka := keys_are he io.1 io.2
  generalize ks.map (fun x => x.2.1) = bs at ka pk lk
  generalize acc.toList = vs at ka
  have lv : vs.length = kvs.length := by rw [ka, List.length_map, lk]
  have I1 : Inv X pins σ H { z with heap := h1, toks := t1 } := I.kept kp
  have gl : (h1.push (seqObj "list" vs.toArray 0)).get? h1.objs.size = some (seqObj "list" vs.toArray 0) := Heap.get?_push_size _ rfl
  have its : ∀ v ∈ vs, ∃ ns, Fs.IsIT (h1.push (seqObj "list" vs.toArray 0)) v ns := by
    intro v hv
    rw [ka] at hv
    obtain ⟨b, hb, rfl⟩ := List.mem_map.mp hv
    obtain ⟨p, hp, hH⟩ := key_mem pk hb
    obtain ⟨ns, ens⟩ := hk p hp
    rw [ens, List.map_map] at hH
    obtain ⟨us, ru, ⟨ob, g, c, n, e⟩, _⟩ := I.tuple (SqT.of (xs := ns.map V.int) hH)
    exact ⟨ns, b, ob, _, n, rfl, Heap.get?_push_of_some _ (kp _ _ g), c, e, by simpa using ru.ints⟩
  refine wpAny_bind (wpAny_newList (?_ : wpAny _ _ _ _ _ { z with heap := h1.push (seqObj "list" vs.toArray 0), toks := t1 }) (lv ▸ few))
  refine wpAny_bind (wpAny_holding (wpAny_call_entry slot_list_sort ⟨_, gl, rfl⟩ entry_list_sort (Srt.list_sort_any (s := { z with heap := h1.push (seqObj "list" vs.toArray 0), toks := t1 }) gl (lv ▸ few)
    (fun two => Fs.its_sortable (s := { z with heap := h1.push (seqObj "list" vs.toArray 0), toks := t1 }) (by show X.A.units + 1 + 1 < cLine; omega) two its fun o e => ?_) fun res hp => ⟨_, rfl, wpAny_pure ?_⟩) (args_list_sort _)))
  · cases e.symm.trans gl
    exact fun c => absurd (Value.type.inj c) (by decide)
  · obtain ⟨n1, at1⟩ := PyProof.Rows.sortedHeap_at (vs := vs) (out := res.toArray) gl
    obtain ⟨zs, hzs, ezs⟩ := perm_lift (fun y : (List Key × V) × Addr => Value.ref y.2) hp (kvs.zip bs) ((zip_snds Value.ref kvs bs lk).trans ka.symm)
    have lz : (zs.map fun y => V.ref y.2).length ≤ sizeLine := by rw [List.length_map, hzs.length_eq, List.length_zip, ← lk, Nat.min_self]; exact few
    have J := I1.laid (t' := t1) (a := h1.objs.size) (o := .lst (zs.map fun y => V.ref y.2)) (h' := sortedHeap (h1.push (seqObj "list" vs.toArray 0)) h1.objs.size vs res.toArray) (fun b u e =>
      (PyProof.Rows.sortedHeap_old (Nat.ne_of_lt (Heap.lt_size e)) (by rw [PyProof.Rows.size_push']; exact Nat.lt_succ_of_lt (Heap.lt_size e))).trans (Heap.get?_push_of_some _ e)) (Nat.le_refl _)
      ⟨lz, res, n1, by rw [← ezs]; exact vals_maps (fun y : (List Key × V) × Addr => V.ref y.2) (fun y => Value.ref y.2) zs fun _ _ => rfl, at1⟩
    refine ⟨_, rfl, .ref h1.objs.size, _, J, rfl, q zs _ (I1.hok.fresh (Nat.le_refl _)) ?_ fun y hy => paired_zip pk y (hzs.mem_iff.mp hy)⟩
    have e := hzs.map (·.1)
    rwa [List.map_fst_zip (by rw [lk]; exact Nat.le_refl _)] at e
end
end L2
/-! FcO: regions. -/
namespace Fc
open PySem PySem.Spec PyProof.Rows L2
open Evl (Ex)
/-! ### a table of counts -/
abbrev Tab := List (List Int × Int)
def incT : Tab → List Int → Tab
  | [], k => [(k, 1)]
  | (k', n) :: r, k => if k' = k then (k', n + 1) :: r else (k', n) :: incT r k
def tabM (sigs : List (List Int)) : Tab := sigs.foldl incT []
def kvE (p : List Int × Int) : List Key × V := (p.1.map Sum.inl, .int p.2)
def kvsE (t : Tab) : List (List Key × V) := t.map kvE
theorem inl_inj : ∀ {a b : List Int}, a.map (Sum.inl : Int → Key) = b.map Sum.inl → a = b
  | [], [], _ => rfl
  | [], _ :: _, h => by cases h
  | _ :: _, [], h => by cases h
  | x :: a, y :: b, h => by
    rw [List.map_cons, List.map_cons] at h
    injection h with h1 h2
    rw [Sum.inl.inj h1, inl_inj h2]
theorem perm_sum {a b : List Int} (h : a.Perm b) : a.sum = b.sum := by
  induction h with
  | nil => rfl
  | cons x _ ih => rw [List.sum_cons, List.sum_cons, ih]
  | swap x y l => simp only [List.sum_cons]; omega
  | trans _ _ ih1 ih2 => exact ih1.trans ih2
theorem _root_.L2.Room.u1 {k : Nat} {A : Around} (r : Room k A) : A.units + 1 < cLine := by
  have := r.un
  omega
theorem _root_.L2.Room.u8 {k : Nat} {A : Around} (r : Room k A) : A.units + 8 < cLine := by
  have := r.un
  omega
theorem keys_inc : ∀ (t : Tab) (k : List Int), (incT t k).map (·.1) = if k ∈ t.map (·.1) then t.map (·.1) else t.map (·.1) ++ [k]
  | [], k => by simp [incT]
  | (k', n) :: r, k => by
    unfold incT
    by_cases h : k' = k
    · subst h
      rw [if_pos rfl, if_pos (by simp)]
      rfl
    · have h' : ¬ k = k' := fun z => h z.symm
      rw [if_neg h, List.map_cons, keys_inc r k]
      by_cases hm : k ∈ r.map (·.1)
      · rw [if_pos hm, if_pos (by rw [List.map_cons]; exact List.mem_cons_of_mem _ hm)]
        rfl
      · rw [if_neg hm, if_neg (by
          rw [List.map_cons]
          intro z
          rcases List.mem_cons.mp z with z | z
          · exact h' z
          · exact hm z)]
        rfl
theorem nodup_inc {t : Tab} {k : List Int} (h : (t.map (·.1)).Nodup) : ((incT t k).map (·.1)).Nodup := by
  rw [keys_inc]
  split
  · exact h
  · rename_i hm
    exact List.nodup_append.mpr ⟨h, by simp, fun a ha b hb => by rw [List.mem_singleton.mp hb]; intro z; subst z; exact hm ha⟩
theorem nodup_tab (sigs : List (List Int)) : ((tabM sigs).map (·.1)).Nodup := by
  have : ∀ (l : List (List Int)) (t : Tab), (t.map (·.1)).Nodup → ((l.foldl incT t).map (·.1)).Nodup := by
    intro l
    induction l with
    | nil => intro t h; exact h
    | cons a l ih => intro t h; exact ih _ (nodup_inc h)
  exact this sigs [] (by simp)
theorem inc_len : ∀ (t : Tab) (k : List Int), (incT t k).length ≤ t.length + 1
  | [], k => by simp [incT]
  | (k', n) :: r, k => by
    have ih := inc_len r k
    unfold incT
    split
    · simp
    · simp only [List.length_cons]
      omega
theorem tab_len (sigs : List (List Int)) : (tabM sigs).length ≤ sigs.length := by
  have : ∀ (l : List (List Int)) (t : Tab), (l.foldl incT t).length ≤ t.length + l.length := by
    intro l
    induction l with
    | nil => intro t; exact Nat.le_refl _
    | cons a l ih =>
      intro t
      have h1 := ih (incT t a)
      have h2 := inc_len t a
      rw [List.foldl_cons, List.length_cons]
      omega
  have := this sigs []
  simpa [tabM] using this
def lookT : Tab → List Int → Option Int
  | [], _ => none
  | (k', n) :: r, k => if k' = k then some n else lookT r k
theorem valE : ∀ (t : Tab) (k : List Int), valV (kvsE t) (k.map Sum.inl) = (lookT t k).map V.int
  | [], k => rfl
  | (k', n) :: r, k => by
    unfold lookT
    by_cases h : k' = k
    · subst h
      rw [if_pos rfl]
      exact valV_pos (p := kvE (k', n)) rfl
    · rw [if_neg h, ← valE r k]
      exact valV_neg (p := kvE (k', n)) fun z => h (inl_inj z)
theorem look_none : ∀ {t : Tab} {k : List Int}, k ∉ t.map (·.1) → lookT t k = none
  | [], k, _ => rfl
  | (k', n) :: r, k, h => by
    rw [List.map_cons] at h
    unfold lookT
    rw [if_neg (fun z => h (by rw [z]; exact List.mem_cons_self))]
    exact look_none fun z => h (List.mem_cons_of_mem _ z)
theorem look_mem : ∀ {t : Tab} {k : List Int} {n : Int}, (t.map (·.1)).Nodup → (k, n) ∈ t → lookT t k = some n
  | [], k, n, _, h => by simp at h
  | (k', m) :: r, k, n, hn, h => by
    rw [List.map_cons, List.nodup_cons] at hn
    unfold lookT
    rcases List.mem_cons.mp h with h | h
    · cases h
      rw [if_pos rfl]
    · rw [if_neg (fun z => hn.1 (by
        subst z
        exact List.mem_map.mpr ⟨_, h, rfl⟩))]
      exact look_mem hn.2 h
theorem putE (t : Tab) (k : List Int) (hn : (t.map (·.1)).Nodup) : putK (kvsE t) (k.map Sum.inl) (.int ((lookT t k).getD 0 + 1)) = kvsE (incT t k) := by
  have key : ∀ (t : Tab), (t.map (·.1)).Nodup → k ∈ t.map (·.1) → ∀ x, x = (lookT t k).getD 0 + 1 → (kvsE t).map (fun kv => if kv.1 = k.map Sum.inl then (kv.1, V.int x) else kv) = kvsE (incT t k) := by
    intro t
    induction t with
    | nil => intro _ h; simp at h
    | cons p r ih =>
      obtain ⟨k', n⟩ := p
      intro hn hm x hx
      rw [List.map_cons, List.nodup_cons] at hn
      unfold incT
      unfold lookT at hx
      by_cases h : k' = k
      · subst h
        rw [if_pos rfl] at hx ⊢
        have hx' : x = n + 1 := hx
        subst hx'
        show (if (kvE (k', n)).1 = k'.map Sum.inl then _ else _) :: _ = kvE (k', n + 1) :: kvsE r
        rw [if_pos (show (kvE (k', n)).1 = k'.map Sum.inl from rfl)]
        refine congrArg _ ?_
        conv => rhs; rw [← List.map_id (kvsE r)]
        refine List.map_congr_left fun kv hkv => ?_
        obtain ⟨q, hq, rfl⟩ := List.mem_map.mp hkv
        rw [if_neg fun z => hn.1 (by
          rw [← inl_inj z]
          exact List.mem_map.mpr ⟨q, hq, rfl⟩)]
        rfl
      · rw [if_neg h] at hx ⊢
        have hm' : k ∈ r.map (·.1) := by
          rw [List.map_cons] at hm
          rcases List.mem_cons.mp hm with z | z
          · exact absurd z.symm h
          · exact z
        show (if (kvE (k', n)).1 = k.map Sum.inl then _ else _) :: _ = kvE (k', n) :: kvsE (incT r k)
        rw [if_neg (show ¬ (kvE (k', n)).1 = k.map Sum.inl from fun z => h (inl_inj z))]
        exact congrArg _ (ih hn.2 hm' x hx)
  by_cases hm : k ∈ t.map (·.1)
  · unfold putK
    rw [if_pos ?_]
    · exact key t hn hm _ rfl
    · rw [List.any_eq_true]
      obtain ⟨q, hq, e⟩ := List.mem_map.mp hm
      exact ⟨kvE q, List.mem_map.mpr ⟨q, hq, rfl⟩, decide_eq_true (by rw [← e]; rfl)⟩
  · rw [putK_new _ (by rw [valE, look_none hm]; rfl), look_none hm]
    have : ∀ (t : Tab), k ∉ t.map (·.1) → incT t k = t ++ [(k, 1)] := by
      intro t
      induction t with
      | nil => intro _; rfl
      | cons p r ih =>
        obtain ⟨k', n⟩ := p
        intro h
        rw [List.map_cons] at h
        unfold incT
        rw [if_neg (fun z => h (by rw [z]; exact List.mem_cons_self)), ih fun z => h (List.mem_cons_of_mem _ z)]
        rfl
    rw [this t hm]
    unfold kvsE
    rw [List.map_append]
    rfl
/-- the counts of the keys that q takes -/
def sumT (q : List Int → Bool) (t : Tab) : Int := ((t.filter fun p => q p.1).map (·.2)).sum
theorem sumT_inc (q : List Int → Bool) : ∀ (t : Tab) (k : List Int), sumT q (incT t k) = sumT q t + if q k then 1 else 0
  | [], k => by
    cases h : q k <;> simp [sumT, incT, h]
  | (k', n) :: r, k => by
    have ih := sumT_inc q r k
    unfold sumT at ih ⊢
    unfold incT
    by_cases h : k' = k
    · subst h
      rw [if_pos rfl]
      cases hq : q k'
      · rw [List.filter_cons_of_neg (by simp [hq]), List.filter_cons_of_neg (by simp [hq])]
        simp
      · rw [List.filter_cons_of_pos (by simp [hq]), List.filter_cons_of_pos (by simp [hq])]
        simp only [List.map_cons, List.sum_cons, if_true]
        omega
    · rw [if_neg h]
      cases hq : q k'
      · rw [List.filter_cons_of_neg (by simp [hq]), List.filter_cons_of_neg (by simp [hq])]
        exact ih
      · rw [List.filter_cons_of_pos (by simp [hq]), List.filter_cons_of_pos (by simp [hq])]
        simp only [List.map_cons, List.sum_cons]
        omega
theorem sumT_tab (q : List Int → Bool) (sigs : List (List Int)) : sumT q (tabM sigs) = ((sigs.filter q).length : Int) := by
  have : ∀ (l : List (List Int)) (t : Tab), sumT q (l.foldl incT t) = sumT q t + ((l.filter q).length : Int) := by
    intro l
    induction l with
    | nil => intro t; simp
    | cons a l ih =>
      intro t
      rw [List.foldl_cons, ih, sumT_inc]
      cases h : q a
      · rw [List.filter_cons_of_neg (by simp [h])]
        simp
      · rw [List.filter_cons_of_pos h]
        simp only [List.length_cons, if_true]
        omega
  have := this sigs []
  simpa [tabM, sumT] using this
theorem sumT_perm {q : List Int → Bool} {t u : Tab} (h : t.Perm u) : sumT q t = sumT q u := by
  unfold sumT
  have := (h.filter fun p => q p.1).map (·.2)
  exact perm_sum this

/-! ### the dict in the heap -/
def Mdict (H0 : Hp) (p : Addr) (t : Tab) : Mx := ⟨fun G H => H0 p = none ∧ G p = none ∧ H p = some (.dT (kvsE t)), fun n h => ⟨h.1, n.no h.2.1 h.2.2 (fun _ z => by cases z), n.h _ _ h.2.2⟩⟩
section
variable {X : Cx} {G0 H0 : Hp} {N : As} {R : Sl → Prop} {ρ : List Sl} {rest : List Stmt} {pos py dp : Pos} {x : Str}
theorem ss_dnew (i : Nat) (k : ∀ p, Ss X G0 H0 (aT G0 H0 (ρ.set i (.at (.ref p))) (Mdict H0 p [])) rest N R) (hN : X.N.Nodup) (hi : X.N[i]? = some x := by rfl) (hx : Loc X.env.scope x := by first | exact Or.inl rfl | exact Or.inr rfl) (hs : swapsWith (.Dict [] [] dp) (some (.Name x py)) pos.line X.env = pure false := by rfl)
    (hf : X.fn x = true ∨ X.env.scope.names.lookup x = some .local := by first | exact .inl rfl | exact .inr rfl | assumption) : Ss X G0 H0 (aT G0 H0 ρ M0) (.Assign [.Name x py] (.Dict [] [] dp) pos :: rest) N R :=
  PSs.wk (pss_cons (ps_set (i := i) hN hi hx pe_dnewT hs hf) (PSs.exi (t := fun p => tSs G0 H0 (aT G0 H0 (ρ.set i (.at (.ref p))) (Mdict H0 p [])) N R) fun p => k p)) fun D σ H ⟨G, s, as, q1, q2⟩ =>
    fun p hp => ⟨p, G, s.trans (Ex.new hp), ⟨as.1.more (Ex.new hp), Rel.set (s := .at (.ref p)) rfl i as.2.1, free_of as.1.h hp, free_of s hp, upd_same⟩, q1, q2⟩
variable {pos1 pos2 pos3 ap cp p1 p2 p3 p4 : Pos} {j1 j2 : Nat} {p : Addr} {t : Tab} {y : Str}
/-- d[k] = d.get(k, 0) + 1 -/
theorem ss_dinc (i j : Nat) {k : List Int} (hu : X.A.units + 1 < cLine) (h1 : ρ[i]? = some (.at (.ref p))) (h2 : ρ[j]? = some (.da (encC k))) (hn : (t.map (·.1)).Nodup) (hl : t.length ≤ 1000) (kk : Ss X G0 H0 (aT G0 H0 ρ (Mdict H0 p (incT t k))) rest N R)
    (v1 : PE X (.Name x p1) (tVar i)) (v2 : PE X (.Name y p2) (tVar j)) (v3 : PE X (.Name x p3) (tVar i)) (v4 : PE X (.Name y p4) (tVar j)) (m : M2 X (.Name x p3) "get" ap (.Name y p4) (.Constant (.int 0) j1 pos1) cp)
    (hs : swapsWith (.BinOp (.Call (.Attribute (.Name x p3) "get" ap) [.Name y p4, .Constant (.int 0) j1 pos1] [] cp) .Add (.Constant (.int 1) j2 pos2) pos3) (some (.Subscript (.Name x p1) (.Name y p2) py)) pos.line X.env = pure false := by rfl) :
    Ss X G0 H0 (aT G0 H0 ρ (Mdict H0 p t)) (.Assign [.Subscript (.Name x p1) (.Name y p2) py] (.BinOp (.Call (.Attribute (.Name x p3) "get" ap) [.Name y p4, .Constant (.int 0) j1 pos1] [] cp) .Add (.Constant (.int 1) j2 pos2) pos3) pos :: rest) N R := by
  refine PSs.wk (pss_cons (ps_dput hu v1 v2 (pe_op op_add (pe_dget2 hu v3 v4 pe_int m) pe_int) hs) kk) ?_
  rintro D σ H ⟨G, s, ⟨n0, hr, m1, m2, m3⟩, q1, q2⟩
  obtain ⟨v, g1, e1⟩ := Rel.get hr h1 (fun z => nomatch z)
  have e1' : v = V.ref p := e1
  subst e1'
  obtain ⟨u, g2, d2⟩ := Rel.get hr h2 (fun z => nomatch z)
  cases d2 with
  | @tup b us _ hb hd =>
  have e := hd.ints
  subst e
  have hH : H b = some (.tup ((k.map Sum.inl).map kV)) := by
    rw [s _ _ hb, List.map_map]
    rfl
  have hg : DGet H p (.ref b) ((lookT t k).map V.int) := by
    rw [← valE]
    exact DGet.t m3 hH
  refine ⟨.ref p, g1, p, rfl, .inr ⟨_, .inl m3⟩, .ref b, g2, _, hg, ?_⟩
  have ev : ((lookT t k).map V.int).getD (V.int 0) = V.int ((lookT t k).getD 0) := by cases lookT t k <;> rfl
  refine ⟨(lookT t k).getD 0, 1, ev, rfl, ?_⟩
  refine ⟨.ref p, g1, .ref b, g2, p, _, rfl, DPut.t m3 hH (by unfold kvsE; rw [List.length_map, sizeLine_eq]; omega), ?_⟩
  rw [putE t k hn]
  refine ⟨G, Ex.mut s m2, ⟨Nx.mut n0 m1 m2, hr, m1, m2, upd_same⟩, q1, q2⟩
end
/-- key tuples become part of G -/
theorem take_keys {G0 H0 G H : Hp} : ∀ (bs : List (List Int × Addr)), Nx G0 H0 G H → (∀ z ∈ bs, H z.2 = some (.tup (z.1.map V.int))) → ∃ G1, Nx G0 H0 G1 H ∧ Ex G G1 ∧ DdAll G1 (bs.map fun z => V.ref z.2) (bs.map fun z => encC z.1)
  | [], n, _ => ⟨G, n, Ex.refl G, .nil⟩
  | z :: bs, n, h => by
    obtain ⟨G1, n1, e1, h1⟩ := n.addT (h z List.mem_cons_self)
    obtain ⟨G2, n2, e2, h2⟩ := take_keys bs n1 fun y hy => h y (List.mem_cons_of_mem _ hy)
    exact ⟨G2, n2, e1.trans e2, .cons (.tup (e2 _ _ h1) (DdAll.ofInts _)) h2⟩
section
variable {X : Cx} {G0 H0 : Hp} {ρ : List Sl} {pos pp p2 : Pos} {x : Str} {p : Addr} {t : Tab}
/-- sorted(d) -/
theorem w_sortedD (i : Nat) (hc : X.calm = true) (hu : X.A.units + 8 < cLine) (h1 : ρ[i]? = some (.at (.ref p))) (v1 : PE X (.Name x p2) (tVar i)) (hm : X.mg "sorted" = none) (hg : Gl X "sorted" := by rfl)
    (he : starEach [.Name x p2] X.env = (false, eval (.Name x p2) X.env) :: starEach [] X.env := by rfl) : W X (aT G0 H0 ρ (Mdict H0 p t)) (.Call (.Name "sorted" pp) [.Name x p2] [] pos) (fun s => ∃ ts : Tab, ts.Perm t ∧ s = .da (.list (ts.map fun z => encC z.1))) :=
  W.mk (pe_callB (cr_sortedDT hc hu) hg hm (by decide +kernel) (pa_cons v1 pa_nil he) (by decide) (by decide) he rfl) fun σ G H Q s as q => by
    obtain ⟨n0, hr, m1, m2, m3⟩ := as
    obtain ⟨v, g1, e1⟩ := Rel.get hr h1 (fun z => nomatch z)
    have e1' : v = V.ref p := e1
    subst e1'
    refine ⟨.ref p, g1, p, kvsE t, rfl, m3, fun z hz => ?_, fun zs l hl hp hk => ?_⟩
    · obtain ⟨y, _, rfl⟩ := List.mem_map.mp hz
      exact ⟨y.1, rfl⟩
    · obtain ⟨ts, hts, ets⟩ := perm_lift kvE hp t rfl
      have hlen : ts.length = zs.length := by
        have := congrArg List.length ets
        rwa [List.length_map, List.length_map] at this
      obtain ⟨G1, n1, e1, hd⟩ := take_keys (ts.map (·.1) |>.zip (zs.map (·.2))) (Nx.refl s) (by
        intro z hz
        rw [List.mem_iff_getElem?] at hz
        obtain ⟨j, hj⟩ := hz
        rw [List.getElem?_zip_eq_some, List.getElem?_map, List.getElem?_map] at hj
        obtain ⟨j1, j2⟩ := hj
        obtain ⟨a, ha, ea⟩ := Option.map_eq_some_iff.mp j1
        obtain ⟨b, hb, eb⟩ := Option.map_eq_some_iff.mp j2
        have hb' := hk b (List.mem_of_getElem? hb)
        have e3 : (zs.map (·.1))[j]? = some b.1 := by rw [List.getElem?_map, hb]; rfl
        rw [← ets, List.getElem?_map, ha] at e3
        have e4 : kvE a = b.1 := Option.some.inj e3
        rw [← eb, hb', ← e4, ← ea]
        show some (HO.tup ((a.1.map Sum.inl).map kV)) = _
        rw [List.map_map]
        rfl)
      have ev : ((ts.map (·.1)).zip (zs.map (·.2))).map (fun z => V.ref z.2) = zs.map fun z => V.ref z.2 := by
        have := List.map_snd_zip (l₁ := ts.map (·.1)) (l₂ := zs.map (·.2)) (by rw [List.length_map, List.length_map]; omega)
        have h2 : ((ts.map (·.1)).zip (zs.map (·.2))).map (fun z => V.ref z.2) = (((ts.map (·.1)).zip (zs.map (·.2))).map Prod.snd).map V.ref := by rw [List.map_map]; rfl
        rw [h2, this, List.map_map]
        rfl
      have ek : ((ts.map (·.1)).zip (zs.map (·.2))).map (fun z => encC z.1) = ts.map fun z => encC z.1 := by
        have := List.map_fst_zip (l₁ := ts.map (·.1)) (l₂ := zs.map (·.2)) (by rw [List.length_map, List.length_map]; omega)
        have h2 : ((ts.map (·.1)).zip (zs.map (·.2))).map (fun z => encC z.1) = (((ts.map (·.1)).zip (zs.map (·.2))).map Prod.fst).map encC := by rw [List.map_map]; rfl
        rw [h2, this, List.map_map]
        rfl
      rw [ev, ek] at hd
      exact q _ _ _ _ ⟨ts, hts, rfl⟩ (n1.trans (Nx.new n1.s hl)) (Dd.lst upd_same (hd.up (Ex.new (free_of n1.s hl))))
/-- d[k], there -/
theorem w_dget (i : Nat) {j : Nat} {k : List Int} {n : Int} {y : Str} (hu : X.A.units + 1 < cLine) (h1 : ρ[i]? = some (.at (.ref p))) (h2 : ρ[j]? = some (.da (encC k))) (hk : lookT t k = some n) (v1 : PE X (.Name x p2) (tVar i)) (v2 : PE X (.Name y pp) (tVar j)) :
    WD X (aT G0 H0 ρ (Mdict H0 p t)) (.Subscript (.Name x p2) (.Name y pp) pos) (.int n) := W.mk (pe_dget hu v1 v2 (by exact fun _ _ => rfl)) fun σ G H Q s as q => by
    obtain ⟨n0, hr, m1, m2, m3⟩ := as
    obtain ⟨v, g1, e1⟩ := Rel.get hr h1 (fun z => nomatch z)
    have e1' : v = V.ref p := e1
    subst e1'
    obtain ⟨u, g2, d2⟩ := Rel.get hr h2 (fun z => nomatch z)
    cases d2 with
    | @tup b us _ hb hd =>
    have e := hd.ints
    subst e
    have hH : H b = some (.tup ((k.map Sum.inl).map kV)) := by
      rw [s _ _ hb, List.map_map]
      rfl
    have hg : DGet H p (.ref b) (some (.int n)) := by
      have := DGet.t m3 hH
      rw [valE, hk] at this
      exact this
    exact ⟨.ref p, g1, .ref b, g2, p, _, rfl, hg, q _ _ G H rfl (Nx.refl s) (Dd.int n)⟩
end
/-! ### regions -/
def sig (L : Li) (c : List Int) : List Int := ((List.range L.rules.length).filter fun k => mtch L k c).map fun (k : Nat) => (k : Int)
def sigs (L : Li) : List (List Int) := (casesM L.ws).map (sig L)
def encT (z : List Int × Int) : PD := .tuple [encC z.1, .int z.2]
def FRegions (ss : List Sl) (S : Sl → Prop) : Prop := ∃ L, OkL L ∧ ss = [.da (encL L)] ∧ S = fun s => ∃ ts : Tab, ts.Perm (tabM (sigs L)) ∧ s = .da (.tuple (ts.map encT))
abbrev sRegions : Stmt := topS 20
theorem scRegions : FnScope ["listed", "found", "case", "number", "chosen"] ["listed"] (defScope sRegions) := ⟨rfl, rfl, rfl, by decide +kernel, rfl, by decide +kernel, by decide +kernel⟩
section
variable {P : Program} {w : World} {K : PySem.W.Frag} {mg : Str → Option Value} {base : Heap} {f C : Addr} {fd : FuncData} {k : Nat}
theorem d_regions (T : Txt K mg) (D1 : Def P w K mg base (L2.CX P w) 5 "check_list" ["listed", "name"] (spX C FChkL)) (D2 : Def P w K mg base CX0 1 "cases_of" ["widths"] (spF FCases)) (D3 : Def P w K mg base CX0 1 "matches_in" ["listed", "number", "case"] (spF FMatch)) (Fn : Fun K "regions" "regions" sRegions f fd) (hm : mg "regions" = some (.ref f)) (hb : Binds K fd ["listed"] []) : Def P w K mg base CX0 6 "regions" ["listed"] (spF FRegions) := by
  refine def_of Fn hm hb scRegions (by rintro _ _ ⟨L, _, rfl, rfl⟩; rfl) (fun cdv A outer s H E hr => ?_)
  rintro _ _ ⟨L, hL, rfl, rfl⟩ G0 H0
  have hr1 := hr.mono (j := 1) (by decide)
  have h512 := casesM_512 hL.wv hL.w3
  refine ss_expr (w_callG D1.ok hr passL (ws_cons (w_var (s := .da (encL L)) 0) (ws_one w_str)) (by rintro _ rfl; exact .inr ⟨L, _, hL, rfl, rfl⟩)) ?_
  refine ss_dnew 1 (fun p => ?_) scRegions.nd
  refine ss_for (vs := [2]) (fun l i => aT G0 H0 [.da (encL L), .at (.ref p), .no, .no, .no] (Mdict H0 p (tabM ((sigs L).take i)))) (fun l i => aT G0 H0 [.da (encL L), .at (.ref p), .da (l.getD i .none), .no, .no] (Mdict H0 p (tabM ((sigs L).take i))))
    PassesOwn.never rfl (wi_lst (w_call D2 hr1 (ws_one (w_L0 (w_var 0))) ⟨L.ws, hL.w3, hL.wv, rfl, rfl⟩)) (pg_name (i := 2) scRegions.nd rfl (Or.inr rfl)) ?_ ?_ ?_ ?_
  · rintro _ rfl σ G H h
    exact h
  · rintro _ i d rfl hd
    have e : ((casesM L.ws).map encC).getD i .none = d := getD_at hd
    rw [e]
    exact gt_name 2
  · rintro _ i d rfl hd
    have e : ((casesM L.ws).map encC).getD i .none = d := getD_at hd
    rw [e]
    rw [List.getElem?_map] at hd
    obtain ⟨c, hc, rfl⟩ := Option.map_eq_some_iff.mp hd
    have hcm := List.mem_of_getElem? hc
    have hcl := casesM_len hcm
    have e1 : (sigs L).take (i + 1) = (sigs L).take i ++ [sig L c] := by
      have hi : (sigs L)[i]? = some (sig L c) := by unfold sigs; rw [List.getElem?_map, hc]; rfl
      obtain ⟨h1, e⟩ := List.getElem?_eq_some_iff.mp hi
      rw [← e]
      exact (List.take_append_getElem h1).symm
    have e2 : tabM ((sigs L).take (i + 1)) = incT (tabM ((sigs L).take i)) (sig L c) := by
      rw [e1]
      unfold tabM
      rw [List.foldl_append]
      rfl
    refine ss_setD (d := encC (sig L c)) 4 (W.to (w_tupleL (w_lc (own := [("number", 3)]) (List.range L.rules.length) natD (fun k => aT G0 H0 [.da (encL L), .at (.ref p), .da (encC c), .da (natD k), .no] (Mdict H0 p (tabM ((sigs L).take i)))) (fun k => mtch L k c) natD rfl scRegions.nd
      ((wi_range (n := L.rules.length) ((w_lenT (w_L1 (w_var 0)) T.len).to (by rw [List.length_map])) (by have := hL.r7; omega) T.range).to rfl) (blkOk_by (own := [("number", 3)]) (N := ["listed", "found", "case", "number", "chosen"]) (sc := defScope sRegions) (by decide +kernel)) (fun _ _ _ _ _ => pg_name (i := 3) scRegions.nd rfl (Or.inl rfl)) (fun a _ => gt_name 3)
      (fun k hk s H C cl fp => pts_T1 (t_val (w_call D3 hr1 (ws_cons (w_var 0) (ws_cons (w_var 3) (ws_one (w_var 2)))) ⟨L, k, c, hL, List.mem_range.mp hk, hcl, rfl, rfl⟩))) (fun k hk hf s H C cl fp => w_var 3) natD_inj (by rw [List.length_range]; have := hL.r7; omega)) T.tuple) ?_) ?_ scRegions.nd
    · unfold encC sig
      rw [List.map_map]
      rfl
    · refine ss_dinc (k := sig L c) 1 4 hr.u1 rfl rfl (nodup_tab _) ?_ ?_ (pv 1) (pv 4) (pv 1) (pv 4) ⟨rfl, rfl, rfl, rfl⟩
      · have := tab_len ((sigs L).take i)
        rw [List.length_take] at this
        have h2 : (sigs L).length ≤ 512 := by unfold sigs; rw [List.length_map]; exact h512
        omega
      · rw [← e2]
        exact Ss.post ss_nil (aT_wk ⟨.inr rfl, .inr rfl, .inl rfl, .inl rfl, .inl rfl, trivial⟩)
  · rintro _ rfl
    have el : ((casesM L.ws).map encC).length = (sigs L).length := by unfold sigs; rw [List.length_map, List.length_map]
    rw [el, List.take_length]
    have hnd := nodup_tab (sigs L)
    have htl : (tabM (sigs L)).length ≤ 512 := by
      have := tab_len (sigs L)
      have h2 : (sigs L).length ≤ 512 := by unfold sigs; rw [List.length_map]; exact h512
      omega
    refine ss_ret (w_tupleQ (S := fun s => ∃ ts : Tab, ts.Perm (tabM (sigs L)) ∧ s = .da (.list (ts.map encT))) (W.imp (w_lcQ (own := [("chosen", 4)]) (L := fun l => ∃ ts : Tab, ts.Perm (tabM (sigs L)) ∧ l = ts.map fun z => encC z.1) (B := fun _ => Eq true) (S := fun d s => ∃ z ∈ tabM (sigs L), d = encC z.1 ∧ s = .da (encT z))
      (aT G0 H0 [.da (encL L), .at (.ref p), .no, .no, .no] (Mdict H0 p (tabM (sigs L)))) (fun d => aT G0 H0 [.da (encL L), .at (.ref p), .no, .no, .da d] (Mdict H0 p (tabM (sigs L)))) rfl scRegions.nd ?_ (blkOk_by (own := [("chosen", 4)]) (N := ["listed", "found", "case", "number", "chosen"]) (sc := defScope sRegions) (by decide +kernel))
      (fun _ _ _ _ _ => pg_name (i := 4) scRegions.nd rfl (Or.inl rfl)) ?_ (fun d _ => gt_name 4) (fun d _ s H C cl fp => pts_T0) ?_ ?_ ?_) ?_) ?_ T.tuple) ?_
    · refine PI.wk (pi_list (w_sortedD (G0 := G0) (H0 := H0) (ρ := [.da (encL L), .at (.ref p), .no, .no, .no]) (p := p) (t := tabM (sigs L)) 1 rfl hr.u8 rfl (pv 1) T.sorted)) ?_
      rintro σ H R ⟨G, s, as, q⟩
      refine ⟨G, s, as, ?_⟩
      rintro _ v G1 H1 ⟨ts, hts, rfl⟩ n1 dv
      cases dv with
      | @lst p us _ h1 h2 =>
        refine ⟨p, rfl, ⟨us, SqL.of (n1.s _ _ h1)⟩, q _ _ G1 H1 ⟨ts, hts, rfl⟩ n1 ⟨?_, ?_, ?_⟩⟩
        · rintro i H' hi ⟨G', n, n'⟩
          obtain ⟨x, hx, _⟩ := h2.get (List.getElem?_eq_getElem hi)
          exact ⟨us, x, SqL.of (n' _ _ (n _ _ h1)), hx⟩
        · rintro H' ⟨G', n, n'⟩
          exact ⟨us, SqL.of (n' _ _ (n _ _ h1)), by rw [h2.length]; exact Nat.le_refl _⟩
        · rintro i H' x H'' hi ⟨G0, n0⟩ ⟨rfl, hy⟩ G' n n'
          have hx := hy us (SqL.of (n' _ _ (n _ _ h1)))
          obtain ⟨d, hd, dd⟩ := h2.getV hx
          exact ⟨G', d, Nx.refl n', hd, dd.up n⟩
    · exact fun σ G H h => hw_aT (vs := [4]) σ G H h
    · rintro d ⟨l, ⟨ts, hts, rfl⟩, hd⟩ _ s H C cl fp
      obtain ⟨z, hz, rfl⟩ := List.mem_map.mp hd
      have hz' := hts.mem_iff.mp hz
      refine (w_tup [encC z.1, .int z.2] (ws_cons (w_var (s := .da (encC z.1)) 4) (ws_one (w_dget 1 (j := 4) (k := z.1) hr.u1 rfl rfl (look_mem hnd hz') (pv 1) (pv 4))))).imp ?_
      rintro _ rfl
      exact ⟨z, hz', rfl, rfl⟩
    · rintro _ ⟨ts, hts, rfl⟩
      rw [List.length_map, hts.length_eq]
      omega
    · rintro d _ ⟨z, _, _, rfl⟩
      exact ⟨_, rfl⟩
    · rintro _ ⟨_, r, ⟨ts, hts, rfl⟩, hcoll, rfl⟩
      refine ⟨ts, hts, ?_⟩
      rw [Coll.detT (f := fun _ => true) (g := encT) (l := ts) (enc := fun z => encC z.1) ?_ ?_ hcoll]
      · rw [List.filter_eq_self.mpr (fun _ _ => rfl)]
      · rintro a _ b rfl
        rfl
      · rintro a ha _ e ⟨z, hz, ez, he⟩
        have hk := encC_inj _ _ ez
        have l1 := look_mem hnd hz
        have l2 := look_mem hnd (hts.mem_iff.mp ha)
        rw [← hk, l2] at l1
        injection he with he
        rw [he]
        have : a = z := by
          obtain ⟨a1, a2⟩ := a
          obtain ⟨z1, z2⟩ := z
          simp only at hk l1
          rw [hk, Option.some.inj l1]
        rw [this]
    · rintro _ ⟨ts, _, rfl⟩
      exact ⟨_, rfl⟩
    · rintro _ ⟨ds, ⟨ts, hts, e⟩, rfl⟩
      injection e with e
      injection e with e
      exact ⟨ts, hts, by rw [e]⟩
end
end Fc
/-! FcP: the stream of draws. -/
namespace Fc
open PySem PySem.Spec PyProof.Rows L2
open Evl (Ex)
/-! ### a state known but for some values -/
def exA {ι : Type} (P : ι → Prop) (A : ι → As) : As := ⟨fun σ G H => ∃ i, P i ∧ (A i).p σ G H, fun n ⟨i, h1, h2⟩ => ⟨i, h1, (A i).m n h2⟩⟩
section
variable {X : Cx} {G0 H0 : Hp} {N A : As} {R : Sl → Prop} {ρ : List Sl} {M : Mx} {rest : List Stmt} {ι : Type} {P : ι → Prop}
theorem ss_ex {A : ι → As} (h : ∀ i, P i → Ss X G0 H0 (A i) rest N R) : Ss X G0 H0 (exA P A) rest N R :=
  PSs.wk (PSs.exi (t := fun i : { i // P i } => tSs G0 H0 (A i.1) N R) fun i => h i.1 i.2) fun D σ H ⟨G, s, ⟨i, h1, h2⟩, q1, q2⟩ => ⟨⟨i, h1⟩, G, s, h2, q1, q2⟩
theorem ss_toEx {A : ι → As} {sts : List Stmt} (i : ι) (hi : P i) (h : Ss X G0 H0 N sts (A i) R) : Ss X G0 H0 N sts (exA P A) R := Ss.post h fun _ _ _ z => ⟨i, hi, z⟩
end
section
variable {X : Cx} {A : As} {e a b c : Expr} {pos p : Pos}
theorem w_mul {i j : Int} (ha : WD X A a (.int i)) (hb : WD X A b (.int j)) (hc : -(2 ^ 64) < j ∧ j < 2 ^ 64) : WD X A (.BinOp a .Mult b pos) (.int (i * j)) := w_intsD op_mul ha hb (.inr hc)
theorem w_mod {i j : Int} (ha : WD X A a (.int i)) (hb : WD X A b (.int j)) (hc : 0 < j) : WD X A (.BinOp a .Mod b pos) (.int (i % j)) := w_intsD op_mod ha hb hc
theorem w_div {i j : Int} (ha : WD X A a (.int i)) (hb : WD X A b (.int j)) (hc : 0 < j ∧ j < 1073741824) : WD X A (.BinOp a .FloorDiv b pos) (.int (i / j)) := w_intsD op_fdiv ha hb hc
theorem w_pow {i j : Int} (ha : WD X A a (.int i)) (hb : WD X A b (.int j)) (hc : 0 ≤ j ∧ j ≤ 1000000 ∧ i.natAbs < 2 ^ 64) : WD X A (.BinOp a .Pow b pos) (.int (i ^ j.toNat)) := w_intsD op_pow ha hb hc
theorem w_int1 {i : Int} (h : WD X A e (.int i)) (hm : X.mg "int" = none) (hg : Gl X "int" := by rfl) (he : starEach [e] X.env = (false, eval e X.env) :: starEach [] X.env := by rfl) : WD X A (.Call (.Name "int" p) [e] [] pos) (.int i) :=
  w_bltT call_int1 (ws_one h he) (by
    rintro _ vs G H rfl dv s Q q
    obtain ⟨v, rfl, dv'⟩ := slAll1 dv
    cases dv'
    exact .inl ⟨i, rfl, q _ _ G H rfl (Nx.refl s) (Dd.int _)⟩) hm (by decide +kernel) hg (he := he)
theorem w_abs {i : Int} (h : WD X A e (.int i)) (hm : X.mg "abs" = none) (hg : Gl X "abs" := by rfl) (he : starEach [e] X.env = (false, eval e X.env) :: starEach [] X.env := by rfl) : WD X A (.Call (.Name "abs" p) [e] [] pos) (.int (if i < 0 then -i else i)) :=
  w_blt call_abs (ws_one h he) (by
    rintro _ vs G H rfl dv s Q q
    obtain ⟨v, rfl, dv'⟩ := slAll1 dv
    cases dv'
    exact ⟨i, rfl, q _ _ G H rfl (Nx.refl s) (Dd.int _)⟩) hm (by decide +kernel) hg (he := he)
end
/-! ### the stream as a list, while one def works on it -/
section
variable {X : Cx} {pins : List (Addr × Obj)} {σ : L2.St} {H : Hp} {s : Shared} {S a : Addr}
theorem str_ok {P : Program} {w : World} {H : Hp} {h : Heap} {c k : Int} {t u : Tok} {n : Nat} (hc : 0 ≤ c) (hk : 0 ≤ k) (e : h.get? S = some ({ cls := .type "list", data := .seq #[.ref a, .int c t, .int k u] n } : Obj)) : ObjOk P w H h S (strO S a) :=
  ⟨⟨c, k, t, u, n, hc, hk, e⟩, ⟨_, e⟩, fun h1 h2 z kk => by
    obtain ⟨c, k, t, u, n, hc, hk, e⟩ := z
    exact ⟨c, k, t, u, n, hc, hk, kk _ e⟩⟩
theorem str_open (I : Inv X pins σ H s) (hS : H S = some (strO S a)) : ∃ c k : Int, 0 ≤ c ∧ 0 ≤ k ∧ Inv X pins σ (upd H S (.lst [.ref a, .int c, .int k])) s := by
  obtain ⟨⟨c, k, t, u, n, hc, hk, e⟩, _, _⟩ := (show ObjOk X.prog X.w H s.heap S (.ext fun h => ∃ (c k : Int) (t u : Tok) (n : Nat), 0 ≤ c ∧ 0 ≤ k ∧ h.get? S = some ({ cls := .type "list", data := .seq #[.ref a, .int c t, .int k u] n } : Obj)) from I.hok S _ hS)
  refine ⟨c, k, hc, hk, ?_⟩
  exact I.write (x := S) (e := S) (o := .lst [.ref a, .int c, .int k]) (h' := s.heap) (t' := s.toks) (by rw [hS]; trivial) (.inl rfl) (fun b u _ q => q) ⟨_, e⟩ ⟨by rw [sizeLine_eq]; show 3 ≤ 16777216; decide, [.ref a, .int c t, .int k u], n, .cons rfl (.cons ⟨t, rfl⟩ (.cons ⟨u, rfl⟩ .nil)), e⟩
theorem str_shut {c k : Int} (I : Inv X pins σ H s) (hc : 0 ≤ c) (hk : 0 ≤ k) (hS : H S = some (.lst [.ref a, .int c, .int k])) : Inv X pins σ (upd H S (strO S a)) s := by
  obtain ⟨_, its, n, rv, e⟩ := (show ObjOk X.prog X.w H s.heap S (.lst [.ref a, .int c, .int k]) from I.hok S _ hS)
  cases rv with
  | cons r1 rv =>
  cases rv with
  | cons r2 rv =>
  cases rv with
  | cons r3 rv =>
  cases rv
  cases r1
  obtain ⟨t, rfl⟩ := r2
  obtain ⟨u, rfl⟩ := r3
  exact I.write (x := S) (e := S) (o := strO S a) (h' := s.heap) (t' := s.toks) (by rw [hS]; trivial) (.inl rfl) (fun b u _ q => q) ⟨_, e⟩ (str_ok hc hk e)
theorem pss_open {body : List Stmt} {t : TS} (h : PSs X body t) : PSs X body (fun D σ H => H S = some (strO S a) ∧ ∀ c k : Int, 0 ≤ c → 0 ≤ k → t D σ (upd H S (.lst [.ref a, .int c, .int k]))) := by
  refine ⟨fun pins s σ H D I ⟨hS, q⟩ => ?_⟩
  obtain ⟨c, k, hc, hk, I1⟩ := str_open I hS
  exact h.run pins s σ _ D I1 (q c k hc hk)
theorem ps_shut {st : Stmt} {t : TS} (h : PS X st t) : PS X st (fun D σ H => t { nx := fun σ' H' => ∃ c' k' : Int, 0 ≤ c' ∧ 0 ≤ k' ∧ H' S = some (.lst [.ref a, .int c', .int k']) ∧ D.nx σ' (upd H' S (strO S a)), rt := D.rt, bk := D.bk, ct := D.ct } σ H) := by
  refine ⟨fun pins s σ H D I q => ?_⟩
  refine thn (h.run pins s σ H _ I q) fun f s1 hsp => ?_
  cases f with
  | next =>
    obtain ⟨σ', H', I2, c', k', h1, h2, h3, h4⟩ := hsp
    exact ⟨σ', _, str_shut I2 h1 h2 h3, h4⟩
  | brk => exact hsp
  | cont => exact hsp
  | ret u => exact hsp
/-- [a, 0, 0] as a stream -/
theorem pe_strNew {es : List Expr} {t : TA} {pos : Pos} (h : PA X es t) : PE X (.List es pos) (fun σ H Q => t σ H fun vs H1 => ∃ a, vs = [.ref a, .int 0, .int 0] ∧ ∀ p, H1 p = none → Q (.ref p) (upd H1 p (strO p a))) := by
  refine ⟨fun pins s σ H Q I hq => ?_⟩
  refine wpAny_List_spliced (thn (h.run pos pins s σ H _ I hq) fun us s1 ⟨xs, H1, I1, r, a, e, q⟩ => ?_)
  subst e
  have hl := r.length
  cases r with
  | cons r1 rv =>
  cases rv with
  | cons r2 rv =>
  cases rv with
  | cons r3 rv =>
  cases rv
  cases r1
  obtain ⟨t, rfl⟩ := r2
  obtain ⟨u, rfl⟩ := r3
  refine ⟨by rw [← hl, sizeLine_eq]; show 3 ≤ 16777216; decide, ?_⟩
  have hf : H1 s1.heap.objs.size = none := I1.hok.fresh (Nat.le_refl _)
  exact ⟨.ref s1.heap.objs.size, upd H1 s1.heap.objs.size (strO s1.heap.objs.size a), I1.laid (t' := s1.toks) (fun b u e => Heap.get?_push_of_some _ e) (Nat.le_refl _) (str_ok (Int.le_refl 0) (Int.le_refl 0) (Heap.get?_push_size _ rfl)), rfl, q _ hf⟩
end
/-- the stream's list at S: [ints at a, c, k] -/
def Mst (H0 : Hp) (S a : Addr) (ns : List Int) (c k : Int) : Mx :=
  ⟨fun G H => H0 S = none ∧ G S = none ∧ H S = some (.lst [.ref a, .int c, .int k]) ∧ G a = some (.lst (ns.map V.int)), fun n h => ⟨h.1, n.nl h.2.1 h.2.2.1, n.h _ _ h.2.2.1, n.g _ _ h.2.2.2⟩⟩
section
variable {X : Cx} {G0 H0 G1 H1 : Hp} {N : As} {R : Sl → Prop} {ρ : List Sl} {rest : List Stmt} {e o : Expr} {pos p1 p2 p3 : Pos} {S a : Addr} {ns : List Int} {c k : Int} {j : Nat}
theorem w_sx (i : Nat) {d : PD} (ho : W X (aT G0 H0 ρ (Mst H0 S a ns c k)) o (Eq (.at (.ref S)))) (hd : (i = 0 ∧ d = .list (ns.map .int)) ∨ (i = 1 ∧ d = .int c) ∨ (i = 2 ∧ d = .int k)) : WD X (aT G0 H0 ρ (Mst H0 S a ns c k)) (.Subscript o (.Constant (.int (i : Int)) j p1) pos) d :=
  W.mk (pe_ix ix_seq ho w_int (by exact fun _ _ => rfl)) fun σ G H Q s as q => ⟨G, s, as, by
    rintro _ x G1 H1 rfl n1 ex
    have ex' : x = V.ref S := ex
    subst ex'
    refine ⟨G1, n1.s, (aT G0 H0 ρ (Mst H0 S a ns c k)).m n1 as, ?_⟩
    rintro _ y G2 H2 rfl n2 dy
    cases dy
    obtain ⟨_, _, m1, m2, m3, m4⟩ := (aT G0 H0 ρ (Mst H0 S a ns c k)).m (n1.trans n2) as
    rcases hd with ⟨rfl, rfl⟩ | ⟨rfl, rfl⟩ | ⟨rfl, rfl⟩
    · exact .inl ⟨S, _, 0, .ref a, rfl, rfl, SqL.of m3, rfl, q _ _ G2 H2 rfl (n1.trans n2) (Dd.lst m4 (DdAll.ofInts ns))⟩
    · exact .inl ⟨S, _, 1, .int c, rfl, rfl, SqL.of m3, rfl, q _ _ G2 H2 rfl (n1.trans n2) (Dd.int c)⟩
    · exact .inl ⟨S, _, 2, .int k, rfl, rfl, SqL.of m3, rfl, q _ _ G2 H2 rfl (n1.trans n2) (Dd.int k)⟩⟩
theorem ss_sput (i : Nat) {z c' k' : Int} (h : WD X (aT G0 H0 ρ (Mst H0 S a ns c k)) e (.int z)) (ho : PG X (.Subscript o (.Constant (.int (i : Int)) j p1) p2) (gSub (tW (aT G0 H0 ρ (Mst H0 S a ns c k)) (Eq (.at (.ref S)))) (tW (aT G0 H0 ρ (Mst H0 S a ns c k)) (Eq (.da (.int (i : Int))))) rSetL)) (hi : (i = 1 ∧ c' = z ∧ k' = k) ∨ (i = 2 ∧ c' = c ∧ k' = z))
    (kk : Ss X G1 H1 (aT G0 H0 ρ (Mst H0 S a ns c' k')) rest N R) (hs : swapsWithSole [.Subscript o (.Constant (.int (i : Int)) j p1) p2] e p3.line X.env = pure false := by rfl) (hw : swappedStores [.Subscript o (.Constant (.int (i : Int)) j p1) p2] e X.env = pure none := by rfl)
    (h1 : (assignEach [.Subscript o (.Constant (.int (i : Int)) j p1) p2] X.env).map (·.2) = [assign (.Subscript o (.Constant (.int (i : Int)) j p1) p2) X.env] := by rfl)
 : Ss X G1 H1 (aT G0 H0 ρ (Mst H0 S a ns c k)) (.Assign [.Subscript o (.Constant (.int (i : Int)) j p1) p2] e p3 :: rest) N R := by
  refine PSs.wk (pss_cons (ps_asg h ho hs hw h1) kk) ?_
  rintro D σ H ⟨G, s, as, q1, q2⟩
  refine ⟨G, s, as, ?_⟩
  rintro _ v G1 H1 rfl n1 dv
  cases dv
  refine ⟨G1, n1.s, (aT G0 H0 ρ (Mst H0 S a ns c k)).m n1 as, ?_⟩
  rintro _ x G2 H2 rfl n2 ex
  have ex' : x = V.ref S := ex
  subst ex'
  refine ⟨G2, n2.s, (aT G0 H0 ρ (Mst H0 S a ns c k)).m (n1.trans n2) as, ?_⟩
  rintro _ y G3 H3 rfl n3 dy
  cases dy
  have n13 := (n1.trans n2).trans n3
  obtain ⟨m0, mr, m1, m2, m3, m4⟩ := (aT G0 H0 ρ (Mst H0 S a ns c k)).m n13 as
  have hset : ∃ j' : Nat, ixN [V.ref a, .int c, .int k].length (i : Int) = some j' ∧ [V.ref a, .int c, .int k].set j' (.int z) = [.ref a, .int c', .int k'] := by
    rcases hi with ⟨rfl, rfl, rfl⟩ | ⟨rfl, rfl, rfl⟩
    · exact ⟨1, rfl, rfl⟩
    · exact ⟨2, rfl, rfl⟩
  obtain ⟨j', hj, hl⟩ := hset
  refine ⟨S, _, (i : Int), j', rfl, rfl, m3, hj, ?_⟩
  rw [hl]
  exact ⟨G3, Ex.mut n3.s m2, ⟨Nx.mut m0 m1 m2, mr, m1, m2, upd_same, m4⟩, fun σ'' G'' H'' e'' => q1 σ'' G'' H'' (n13.g.trans e''), q2⟩
/-- the last write: the stream is shut -/
theorem ss_sputX {G H : Hp} {z : Int} (hz : 0 ≤ z) (hk : 0 ≤ k) (hGS : G S = some (strO S a)) (hHS : H S = some (strO S a)) (h : WD X (aT (del G S) (del H S) ρ (Mst (del H S) S a ns c k)) e (.int z)) (ho : PG X (.Subscript o (.Constant (.int 1) j p1) p2) (gSub (tW (aT (del G S) (del H S) ρ (Mst (del H S) S a ns c k)) (Eq (.at (.ref S)))) (tW (aT (del G S) (del H S) ρ (Mst (del H S) S a ns c k)) (Eq (.da (.int 1)))) rSetL))
    (kk : Ss X G1 H1 (aT G H ρ M0) rest N R) (hs : swapsWithSole [.Subscript o (.Constant (.int 1) j p1) p2] e p3.line X.env = pure false := by rfl) (hw : swappedStores [.Subscript o (.Constant (.int 1) j p1) p2] e X.env = pure none := by rfl)
    (h1 : (assignEach [.Subscript o (.Constant (.int 1) j p1) p2] X.env).map (·.2) = [assign (.Subscript o (.Constant (.int 1) j p1) p2) X.env] := by rfl)
 : Ss X G1 H1 (aT (del G S) (del H S) ρ (Mst (del H S) S a ns c k)) (.Assign [.Subscript o (.Constant (.int 1) j p1) p2] e p3 :: rest) N R := by
  refine PSs.wk (pss_cons (ps_shut (S := S) (a := a) (ps_asg h ho hs hw h1)) kk) ?_
  rintro D σ Hq ⟨Gq, s, as, q1, q2⟩
  refine ⟨Gq, s, as, ?_⟩
  rintro _ v G3 H3 rfl n1 dv
  cases dv
  refine ⟨G3, n1.s, (aT (del G S) (del H S) ρ (Mst (del H S) S a ns c k)).m n1 as, ?_⟩
  rintro _ x G4 H4 rfl n2 ex
  have ex' : x = V.ref S := ex
  subst ex'
  refine ⟨G4, n2.s, (aT (del G S) (del H S) ρ (Mst (del H S) S a ns c k)).m (n1.trans n2) as, ?_⟩
  rintro _ y G5 H5 rfl n3 dy
  cases dy
  have n13 := (n1.trans n2).trans n3
  obtain ⟨m0, mr, m1, m2, m3, m4⟩ := (aT (del G S) (del H S) ρ (Mst (del H S) S a ns c k)).m n13 as
  refine ⟨S, _, 1, 1, rfl, rfl, m3, rfl, ?_⟩
  show ∃ c' k' : Int, 0 ≤ c' ∧ 0 ≤ k' ∧ (upd H5 S (.lst [.ref a, .int z, .int k])) S = some (.lst [.ref a, .int c', .int k']) ∧ _
  refine ⟨z, k, hz, hk, upd_same, ?_⟩
  have eu : upd (upd H5 S (.lst ([V.ref a, .int c, .int k].set 1 (.int z)))) S (strO S a) = upd H5 S (strO S a) := by
    funext b
    by_cases hb : b = S
    · rw [hb, upd_same, upd_same]
    · rw [upd_ne hb, upd_ne hb, upd_ne hb]
  rw [eu]
  have e5 : Ex G5 (upd G5 S (strO S a)) := Ex.new m2
  refine ⟨upd G5 S (strO S a), Fc.Ex.both n3.s, ⟨⟨?_, ?_, Fc.Ex.both n3.s, ?_⟩, Rel.up e5 mr, True.intro⟩, fun σ'' G'' H'' e'' => q1 σ'' G'' H'' (n13.g.trans (e5.trans e'')), q2⟩
  · intro b u hb
    by_cases z : b = S
    · rw [z, hGS] at hb
      rw [z, upd_same]
      exact hb
    · rw [upd_ne z]
      exact m0.g b u (by rw [del_ne z]; exact hb)
  · intro b u hb
    by_cases z : b = S
    · rw [z, hHS] at hb
      rw [z, upd_same]
      exact hb
    · rw [upd_ne z]
      exact m0.h b u (by rw [del_ne z]; exact hb)
  · intro b z1 z2 z3
    have z : b ≠ S := fun z => by rw [z, hGS] at z1; cases z1
    rw [upd_ne z]
    refine m0.n b (by rw [del_ne z]; exact z1) (by rw [del_ne z]; exact z2) (by rw [del_ne z]; exact z3)
end
/-! ### _law_next -/
def FNext (ss : List Sl) (S : Sl → Prop) : Prop := ∃ m : Int, 0 < m ∧ m < 1073741824 ∧ ss = [.st, .da (.int m)] ∧ S = IntS (fun i => 0 ≤ i ∧ i < m)
abbrev sNext : Stmt := topS 30
abbrev nNext : List Str := ["_law_stream_here", "_law_many", "_law_k", "_law_cell", "_law_digit"]
theorem scNext : FnScope nNext ["_law_stream_here", "_law_many"] (defScope sNext) := ⟨rfl, rfl, rfl, by decide +kernel, rfl, by decide +kernel, by decide +kernel⟩
section
variable {P : Program} {w : World} {K : PySem.W.Frag} {mg : Str → Option Value} {base : Heap} {f : Addr} {fd : FuncData} {k : Nat}
theorem d_next (T : Txt K mg) (Fn : Fun K "_law_next" "_law_next" sNext f fd) (hm : mg "_law_next" = some (.ref f)) (hb : Binds K fd ["_law_stream_here", "_law_many"] []) : Def P w K mg base CX0 1 "_law_next" ["_law_stream_here", "_law_many"] (spF FNext) := by
  refine ⟨f, fd, Fn.ok scNext (fun vs H Q E h => ?_) (fun cdv A outer s H vs Q E hr h => ?_), hm, Fn.kp, hb⟩
  · obtain ⟨G, ss, S, ⟨m, _, _, rfl, _⟩, _, h2, _⟩ := h
    rw [h2.length]
    rfl
  · obtain ⟨G, ss, R, ⟨m, hm0, hm1, rfl, rfl⟩, hx, hv, q⟩ := h
    obtain ⟨v1, v2, rfl, ⟨S, rfl, a, ns, hS, ha⟩, d2⟩ := slAll2 hv
    cases d2
    have hHS := hx _ _ hS
    have nSa : a ≠ S := fun z => by
      rw [z, hS] at ha
      cases ha
    have hN := scNext.nd
    refine ⟨_, pss_open (S := S) (a := a) (PSs.exi (t := fun z : { z : Int × Int // 0 ≤ z.1 ∧ 0 ≤ z.2 } => tSs G H (aT (del G S) (del H S) [.at (.ref S), .da (.int m), .no, .no, .no] (Mst (del H S) S a ns z.1.1 z.1.2)) bot (IntS (fun i => 0 ≤ i ∧ i < m))) (fun z => ?_)), hHS, fun c k hc hk => ?_⟩
    · obtain ⟨⟨c, k⟩, hc, hk⟩ := z
      simp only at hc hk
      refine (?_ : Ss (cxOf CX0 P w K mg base nNext "_law_next" (defScope sNext) f cdv A outer s H E).nox G H (aT (del G S) (del H S) [.at (.ref S), .da (.int m), .no, .no, .no] (Mst (del H S) S a ns c k)) (defBody sNext) bot (IntS (fun i => 0 ≤ i ∧ i < m)))
      -- behind the first if
      have last : ∀ c k : Int, 0 ≤ c → 0 ≤ k → Ss (cxOf CX0 P w K mg base nNext "_law_next" (defScope sNext) f cdv A outer s H E).nox G H (aT (del G S) (del H S) [.at (.ref S), .da (.int m), .no, .no, .no] (Mst (del H S) S a ns c k)) ((defBody sNext).drop 1) bot (IntS (fun i => 0 ≤ i ∧ i < m)) := by
        intro c k hc hk
        refine ss_setD 4 (w_mod (w_int1 (w_sx 1 (w_var 0) (.inr (.inl ⟨rfl, rfl⟩))) T.int) (w_var 1) hm0) ?_ hN
        refine ss_sputX (z := c / m) (Int.ediv_nonneg hc (Int.le_of_lt hm0)) hk hS hHS (w_div (w_sx 1 (w_var 0) (.inr (.inl ⟨rfl, rfl⟩))) (w_var 1) ⟨hm0, hm1⟩) (pg_sub (w_var 0) w_int set_list) ?_
        refine ss_ret (w_var 4) ?_
        rintro _ rfl
        exact ⟨_, rfl, Int.emod_nonneg _ (by omega), Int.emod_lt_of_pos _ hm0⟩
      by_cases hc0 : c = 0
      · subst hc0
        refine ss_ifT (B := exA (fun z : Int × Int => 0 ≤ z.1 ∧ 0 ≤ z.2) fun z => aT (del G S) (del H S) [.at (.ref S), .da (.int m), .no, .no, .no] (Mst (del H S) S a ns z.1 z.2)) ((t_cmp cmp_eqI (w_sx 1 (w_var 0) (.inr (.inl ⟨rfl, rfl⟩))) w_int).to (decide_eq_true rfl)) ?_ (ss_ex fun z hz => last z.1 z.2 hz.1 hz.2)
        refine ss_setD 2 (w_sx 2 (w_var 0) (.inr (.inr ⟨rfl, rfl⟩))) ?_ hN
        refine ss_setD 3 (w_add w_int (w_var 2)) ?_ hN
        have B1 : ∀ z : Int, 0 ≤ z → Ss (cxOf CX0 P w K mg base nNext "_law_next" (defScope sNext) f cdv A outer s H E).nox G H (aT (del G S) (del H S) [.at (.ref S), .da (.int m), .da (.int k), .da (.int z), .no] (Mst (del H S) S a ns 0 k)) ((match (defBody sNext).head? with | some (.If _ b _ _) => b | _ => []).drop 4)
            (exA (fun z : Int × Int => 0 ≤ z.1 ∧ 0 ≤ z.2) fun z => aT (del G S) (del H S) [.at (.ref S), .da (.int m), .no, .no, .no] (Mst (del H S) S a ns z.1 z.2)) (IntS (fun i => 0 ≤ i ∧ i < m)) := by
          intro z hz
          refine ss_sput 1 (z := z) (c' := z) (k' := k) (w_var 3) (pg_sub (w_var 0) w_int set_list) (.inl ⟨rfl, rfl, rfl⟩) ?_
          refine ss_sput 2 (z := k + 1) (c' := z) (k' := k + 1) (w_add (w_var 2) w_int) (pg_sub (w_var 0) w_int set_list) (.inr ⟨rfl, rfl, rfl⟩) ?_
          exact Ss.post ss_nil fun σ G H h => ⟨(z, k + 1), ⟨hz, by show 0 ≤ k + 1; omega⟩, aT_wk (ρ' := [.at (.ref S), .da (.int m), .no, .no, .no]) (ρ := [.at (.ref S), .da (.int m), .da (.int k), .da (.int z), .no]) ⟨.inr rfl, .inr rfl, .inl rfl, .inl rfl, .inl rfl, trivial⟩ σ G H h⟩
        have B2 : ∀ z : Int, 0 ≤ z → Ss (cxOf CX0 P w K mg base nNext "_law_next" (defScope sNext) f cdv A outer s H E).nox G H (aT (del G S) (del H S) [.at (.ref S), .da (.int m), .da (.int k), .da (.int z), .no] (Mst (del H S) S a ns 0 k)) ((match (defBody sNext).head? with | some (.If _ b _ _) => b | _ => []).drop 3)
            (exA (fun z : Int × Int => 0 ≤ z.1 ∧ 0 ≤ z.2) fun z => aT (del G S) (del H S) [.at (.ref S), .da (.int m), .no, .no, .no] (Mst (del H S) S a ns z.1 z.2)) (IntS (fun i => 0 ≤ i ∧ i < m)) := by
          intro z hz
          by_cases hlt : z < 10 ^ 18
          · refine ss_ifT (B := exA (fun z : Int => 0 ≤ z) fun z => aT (del G S) (del H S) [.at (.ref S), .da (.int m), .da (.int k), .da (.int z), .no] (Mst (del H S) S a ns 0 k)) ((t_cmp cmp_lt (w_var 3) (w_pow w_int w_int ⟨by decide, by decide, by decide⟩)).to (decide_eq_true hlt)) ?_ (ss_ex fun z hz => B1 z hz)
            refine ss_setD 3 (w_mod (w_int1 (w_add (w_add (w_mul (w_var 3) w_int (by decide)) (w_mul (w_var 2) w_int (by decide))) w_int) T.int) w_int (by decide)) ?_ hN
            refine ss_setD 3 (w_add (w_mul (w_mod (w_int1 (w_add (w_mul (w_var 3) w_int (by decide)) w_int) T.int) w_int (by decide)) w_int (by decide)) (w_var 3)) ?_ hN
            refine ss_toEx _ ?_ ss_nil
            have h1 := Int.emod_nonneg (z * 48271 + k * 69621 + 11) (show (2147483647 : Int) ≠ 0 by decide)
            generalize (z * 48271 + k * 69621 + 11) % 2147483647 = y at *
            have h2 := Int.emod_nonneg (y * 16807 + 13) (show (2147483647 : Int) ≠ 0 by decide)
            generalize (y * 16807 + 13) % 2147483647 = x at *
            omega
          · exact ss_ifF ((t_cmp cmp_lt (w_var 3) (w_pow w_int w_int ⟨by decide, by decide, by decide⟩)).to (decide_eq_false hlt)) ss_nil (B1 z hz)
        by_cases hkl : k < (ns.length : Int)
        · have hget : ns[k.toNat]? = some ns[k.toNat] := List.getElem?_eq_getElem (by omega)
          refine ss_ifT (B := exA (fun z : Int => 0 ≤ z) fun z => aT (del G S) (del H S) [.at (.ref S), .da (.int m), .da (.int k), .da (.int z), .no] (Mst (del H S) S a ns 0 k)) ((t_cmp cmp_lt (w_var 2) ((w_lenL (w_sx 0 (w_var 0) (.inl ⟨rfl, rfl⟩)) T.len).to (by rw [List.length_map]))).to (decide_eq_true hkl)) ?_ (ss_ex fun z hz => B2 z hz)
          refine ss_setD 3 (w_abs (w_ix (i := k) (w_sx 0 (w_var 0) (.inl ⟨rfl, rfl⟩)) (w_var 2) rfl (by
            have : k = ((k.toNat : Nat) : Int) := by omega
            rw [this]
            exact atI_nat (by rw [List.getElem?_map]; show Option.map PyData.int (ns[((k.toNat : Nat) : Int).toNat]?) = _; rw [← this, hget]; rfl))) T.abs) ?_ hN
          refine ss_toEx _ ?_ ss_nil
          split <;> omega
        · exact ss_ifF ((t_cmp cmp_lt (w_var 2) ((w_lenL (w_sx 0 (w_var 0) (.inl ⟨rfl, rfl⟩)) T.len).to (by rw [List.length_map]))).to (decide_eq_false hkl)) ss_nil (B2 (7 + k) (by omega))
      · exact ss_ifF ((t_cmp cmp_eqI (w_sx 1 (w_var 0) (.inr (.inl ⟨rfl, rfl⟩))) w_int).to (decide_eq_false hc0)) ss_nil (last c k hc hk)
    · refine ⟨⟨(c, k), hc, hk⟩, del G S, ?_, ⟨⟨Ex.refl _, ?_, ?_, fun _ z _ _ => z⟩, ?_, del_same, del_same, upd_same, ?_⟩, fun _ _ _ _ _ z => z.elim, q⟩
      · intro b u hb
        have z : b ≠ S := fun z => by rw [z, del_same] at hb; cases hb
        rw [del_ne z] at hb
        rw [upd_ne z]
        exact hx _ _ hb
      · intro b u hb
        have z : b ≠ S := fun z => by rw [z, del_same] at hb; cases hb
        rw [del_ne z] at hb
        rw [upd_ne z]
        exact hb
      · intro b u hb
        have z : b ≠ S := fun z => by rw [z, del_same] at hb; cases hb
        rw [del_ne z] at hb
        rw [upd_ne z]
        exact hx _ _ hb
      · exact ⟨.inr ⟨_, rfl, rfl⟩, .inr ⟨_, rfl, Dd.int m⟩, .inl rfl, .inl rfl, .inl rfl, trivial⟩
      · rw [del_ne nSa]
        exact ha
end
end Fc
/-! FcQ: a list that grows; the law's small defs. -/
namespace Fc
open PySem PySem.Spec PyProof.Rows L2
open Evl (Ex)
/-! ### a list that grows, at p, outside G -/
def Ml (H0 : Hp) (p : Addr) (ds : List PD) : Mx := ⟨fun G H => H0 p = none ∧ G p = none ∧ ∃ xs, H p = some (.lst xs) ∧ DdAll G xs ds, fun n h => by
  obtain ⟨h1, h2, xs, h3, h4⟩ := h
  exact ⟨h1, n.nl h2 h3, xs, n.h _ _ h3, h4.up n.g⟩⟩
section
variable {X : Cx} {G0 H0 : Hp} {N : As} {R S : Sl → Prop} {ρ : List Sl} {rest : List Stmt} {e o : Expr} {pos py p1 p2 p3 : Pos} {x : Str} {p : Addr} {ds : List PD}
/-- name = [] -/
theorem ss_lnew (i : Nat) (k : ∀ p, Ss X G0 H0 (aT G0 H0 (ρ.set i (.at (.ref p))) (Ml H0 p [])) rest N R) (hN : X.N.Nodup) (hi : X.N[i]? = some x := by rfl) (hx : Loc X.env.scope x := by first | exact Or.inl rfl | exact Or.inr rfl) (hs : swapsWith (.List [] p1) (some (.Name x py)) pos.line X.env = pure false := by rfl)
    (hf : X.fn x = true ∨ X.env.scope.names.lookup x = some .local := by first | exact .inl rfl | exact .inr rfl | assumption) : Ss X G0 H0 (aT G0 H0 ρ M0) (.Assign [.Name x py] (.List [] p1) pos :: rest) N R :=
  PSs.wk (pss_cons (ps_set (i := i) hN hi hx (pe_lst pa_nil) hs hf) (PSs.exi (t := fun p => tSs G0 H0 (aT G0 H0 (ρ.set i (.at (.ref p))) (Ml H0 p [])) N R) fun p => k p)) fun D σ H ⟨G, s, as, q1, q2⟩ =>
    ⟨Nat.zero_le _, fun p hp => ⟨p, G, s.trans (Ex.new hp), ⟨as.1.more (Ex.new hp), Rel.set (s := .at (.ref p)) rfl i as.2.1, free_of as.1.h hp, free_of s hp, [], upd_same, .nil⟩, q1, q2⟩⟩
/-- l.append(e) -/
theorem ss_append (h : W X (aT G0 H0 ρ (Ml H0 p ds)) e S) (ho : W X (aT G0 H0 ρ (Ml H0 p ds)) o (Eq (.at (.ref p)))) (hz : ds.length ≤ 100000) (hS : ∀ d, S d → ∃ f, d = .da f) (k : ∀ f, S (.da f) → Ss X G0 H0 (aT G0 H0 ρ (Ml H0 p (ds ++ [f]))) rest N R)
    (hbase : attributeBase o "append" X.env (eval o X.env) = eval o X.env := by rfl)
    (hfew : ((backTo p2 (starEach [e] X.env)).all (fun x => !x.1) && (backToKw p2 (keywordEach [] X.env)).all (fun x => x.1.isSome)
      && decide (([e] : List Expr).length + ([] : List Keyword).length + (if ([] : List Keyword).isEmpty then 0 else 1) < 30)) = true := by rfl)
    (hline : (p1.endLine == p2.line) = true := by rfl) (hs : starEach [e] X.env = (false, eval e X.env) :: starEach [] X.env := by rfl) (hplain : (backTo p2 (starEach [] X.env)).any (·.1) = false := by rfl)
    (hsw : swapsWith (.Call (.Attribute o "append" p1) [e] [] p2) none p3.line X.env = pure false := by rfl) : Ss X G0 H0 (aT G0 H0 ρ (Ml H0 p ds)) (.Expr (.Call (.Attribute o "append" p1) [e] [] p2) p3 :: rest) N R :=
  PSs.wk (pss_cons (ps_expr (pe_bm PySem.F.plainAttrs_list PySem.F.slot_list_append PySem.F.type_list_append mt_append ho (ws_consQ h ws_nil hs) hbase hfew hline hs hplain) hsw)
    (PSs.exi (t := fun f : { f // S (.da f) } => tSs G0 H0 (aT G0 H0 ρ (Ml H0 p (ds ++ [f.1]))) N R) fun f => k f.1 f.2)) fun D σ H ⟨G, s, as, q1, q2⟩ => ⟨G, s, as, by
    rintro _ v G1 H1 rfl n1 ev
    have ev' : v = V.ref p := ev
    subst ev'
    have as1 := (aT G0 H0 ρ (Ml H0 p ds)).m n1 as
    obtain ⟨_, _, _, _, xs1, hx1, _⟩ := id as1
    refine ⟨.inl ⟨rfl, _, SqL.of hx1⟩, G1, n1.s, as1, ?_⟩
    rintro _ vs G2 H2 ⟨d, _, rfl, hd, rfl⟩ n2 dv
    obtain ⟨y, rfl, dy⟩ := slAll1 dv
    obtain ⟨f, rfl⟩ := hS d hd
    obtain ⟨m0, mr, m1, m2, xs2, hx2, hd2⟩ := (aT G0 H0 ρ (Ml H0 p ds)).m n2 as1
    refine ⟨p, xs2, y, rfl, rfl, hx2, by rw [hd2.length, sizeLine_eq]; omega, ?_⟩
    exact ⟨⟨f, hd⟩, G2, Ex.mut n2.s m2, ⟨Nx.mut m0 m1 m2, mr, m1, m2, _, upd_same, hd2.append (DdAll.one dy)⟩, fun σ'' G'' H'' e'' => q1 σ'' G'' H'' ((n1.trans n2).g.trans e''), q2⟩⟩
/-- l.extend(e) -/
theorem ss_extend {es : List PD} (h : WD X (aT G0 H0 ρ (Ml H0 p ds)) e (.list es)) (ho : W X (aT G0 H0 ρ (Ml H0 p ds)) o (Eq (.at (.ref p)))) (hz : ds.length + es.length ≤ 100000) (k : Ss X G0 H0 (aT G0 H0 ρ (Ml H0 p (ds ++ es))) rest N R)
    (hbase : attributeBase o "extend" X.env (eval o X.env) = eval o X.env := by rfl)
    (hfew : ((backTo p2 (starEach [e] X.env)).all (fun x => !x.1) && (backToKw p2 (keywordEach [] X.env)).all (fun x => x.1.isSome)
      && decide (([e] : List Expr).length + ([] : List Keyword).length + (if ([] : List Keyword).isEmpty then 0 else 1) < 30)) = true := by rfl)
    (hline : (p1.endLine == p2.line) = true := by rfl) (hs : starEach [e] X.env = (false, eval e X.env) :: starEach [] X.env := by rfl) (hplain : (backTo p2 (starEach [] X.env)).any (·.1) = false := by rfl)
    (hsw : swapsWith (.Call (.Attribute o "extend" p1) [e] [] p2) none p3.line X.env = pure false := by rfl) : Ss X G0 H0 (aT G0 H0 ρ (Ml H0 p ds)) (.Expr (.Call (.Attribute o "extend" p1) [e] [] p2) p3 :: rest) N R :=
  PSs.wk (pss_cons (ps_expr (pe_bm PySem.F.plainAttrs_list PySem.F.slot_list_extend PySem.F.type_list_extend mt_extend ho (ws_one h hs) hbase hfew hline hs hplain) hsw) k) fun D σ H ⟨G, s, as, q1, q2⟩ => ⟨G, s, as, by
    rintro _ v G1 H1 rfl n1 ev
    have ev' : v = V.ref p := ev
    subst ev'
    have as1 := (aT G0 H0 ρ (Ml H0 p ds)).m n1 as
    obtain ⟨_, _, _, _, xs1, hx1, _⟩ := id as1
    refine ⟨.inl ⟨rfl, _, SqL.of hx1⟩, G1, n1.s, as1, ?_⟩
    rintro _ vs G2 H2 rfl n2 dv
    obtain ⟨y, rfl, dy⟩ := slAll1 dv
    obtain ⟨m0, mr, m1, m2, xs2, hx2, hd2⟩ := (aT G0 H0 ρ (Ml H0 p ds)).m n2 as1
    cases dy with
    | @lst b us _ hb hbd =>
    refine ⟨p, b, xs2, us, rfl, rfl, hx2, n2.s _ _ hb, by rw [hd2.length, hbd.length, sizeLine_eq]; omega, ?_⟩
    exact ⟨G2, Ex.mut n2.s m2, ⟨Nx.mut m0 m1 m2, mr, m1, m2, _, upd_same, hd2.append hbd⟩, fun σ'' G'' H'' e'' => q1 σ'' G'' H'' ((n1.trans n2).g.trans e''), q2⟩⟩
/-- name = l: the list grows no more -/
theorem ss_take (i : Nat) (ho : W X (aT G0 H0 ρ (Ml H0 p ds)) e (Eq (.at (.ref p)))) (k : Ss X G0 H0 (aT G0 H0 (ρ.set i (.da (.list ds))) M0) rest N R) (hN : X.N.Nodup) (hi : X.N[i]? = some x := by rfl) (hx : Loc X.env.scope x := by first | exact Or.inl rfl | exact Or.inr rfl) (hs : swapsWith e (some (.Name x py)) pos.line X.env = pure false := by rfl)
    (hf : X.fn x = true ∨ X.env.scope.names.lookup x = some .local := by first | exact .inl rfl | exact .inr rfl | assumption) : Ss X G0 H0 (aT G0 H0 ρ (Ml H0 p ds)) (.Assign [.Name x py] e pos :: rest) N R :=
  PSs.wk (pss_cons (ps_set (i := i) hN hi hx ho hs hf) k) fun D σ H ⟨G, s, as, q1, q2⟩ => ⟨G, s, as, by
    rintro _ v G1 H1 rfl n1 ev
    have ev' : v = V.ref p := ev
    subst ev'
    obtain ⟨m0, mr, m1, m2, xs, hx, hd⟩ := (aT G0 H0 ρ (Ml H0 p ds)).m n1 as
    have e2 : Ex G1 (upd G1 p (.lst xs)) := Ex.new m2
    have m3 := Nx.add m0 m1 m2 hx
    exact ⟨upd G1 p (.lst xs), m3.s, ⟨m3, Rel.set (s := .da (.list ds)) (Dd.lst upd_same (hd.up e2)) i (mr.up e2), True.intro⟩, fun σ'' G'' H'' e'' => q1 σ'' G'' H'' (n1.g.trans (e2.trans e'')), q2⟩⟩
/-- tuple(l) -/
theorem w_tupleM (ho : W X (aT G0 H0 ρ (Ml H0 p ds)) e (Eq (.at (.ref p)))) (hm : X.mg "tuple" = none) (hg : Gl X "tuple" := by rfl) (he : starEach [e] X.env = (false, eval e X.env) :: starEach [] X.env := by rfl) : WD X (aT G0 H0 ρ (Ml H0 p ds)) (.Call (.Name "tuple" p1) [e] [] pos) (.tuple ds) :=
  W.mk (pe_callTy call_tuple_of hg hm (by decide +kernel) (ws_one ho he) (by decide) (by decide) he rfl) fun σ G H Q s as q => ⟨G, s, as, by
    rintro _ vs G1 H1 rfl n1 dv
    obtain ⟨v, rfl, ev⟩ := slAll1 dv
    have ev' : v = V.ref p := ev
    subst ev'
    obtain ⟨m0, mr, m1, m2, xs, hx, hd⟩ := (aT G0 H0 ρ (Ml H0 p ds)).m n1 as
    exact ⟨p, xs, rfl, .inl ⟨SqL.of hx, fun l hl => q _ _ _ _ rfl (n1.trans (Nx.new n1.s hl)) (Dd.tup upd_same (hd.up (Ex.new (free_of n1.s hl))))⟩⟩⟩
end
/-! ### _law_pick -/
def FPick (ss : List Sl) (S : Sl → Prop) : Prop := ∃ xs : List PD, xs ≠ [] ∧ xs.length ≤ 1000 ∧ ss = [.st, .da (.list xs)] ∧ S = fun s => ∃ d ∈ xs, s = .da d
abbrev sPick : Stmt := topS 33
theorem scPick : FnScope ["_law_stream_here", "_law_rows"] ["_law_stream_here", "_law_rows"] (defScope sPick) := ⟨rfl, rfl, rfl, by decide +kernel, rfl, by decide +kernel, by decide +kernel⟩
/-! ### _law_range -/
def OkP (w : Int) (p : Int × Int) : Prop := 0 ≤ p.1 ∧ p.1 ≤ p.2 ∧ p.2 ≤ w - 1
def FRng (ss : List Sl) (S : Sl → Prop) : Prop := ∃ w : Int, 1 ≤ w ∧ w ≤ 8 ∧ ss = [.st, .da (.int w)] ∧ S = fun s => ∃ p, OkP w p ∧ s = .da (encG p)
abbrev sRng : Stmt := topS 34
theorem scRng : FnScope ["_law_stream_here", "_law_width", "_law_ends"] ["_law_stream_here", "_law_width"] (defScope sRng) := ⟨rfl, rfl, rfl, by decide +kernel, rfl, by decide +kernel, by decide +kernel⟩
/-! ### _law_some -/
def SubS (n : Nat) (S : List Nat) : Prop := S.Pairwise (· < ·) ∧ ∀ k ∈ S, k < n
def FSome (ss : List Sl) (R : Sl → Prop) : Prop := ∃ n : Nat, n ≤ 1000 ∧ ss = [.st, .da (.int (n : Int))] ∧ R = fun s => ∃ S, SubS n S ∧ s = .da (encS S)
abbrev sSome : Stmt := topS 38
theorem scSome : FnScope ["_law_stream_here", "_law_many", "_law_k"] ["_law_stream_here", "_law_many"] (defScope sSome) := ⟨rfl, rfl, rfl, by decide +kernel, rfl, by decide +kernel, by decide +kernel⟩
theorem coll_mem {B : PD → Bool → Prop} {S : PD → Sl → Prop} : ∀ {l r : List PD}, Coll B S l r → ∀ e ∈ r, ∃ d ∈ l, S d (.da e)
  | _, _, .nil, e, h => by simp at h
  | _, _, .skip _ t, e, h => by
    obtain ⟨d, h1, h2⟩ := coll_mem t e h
    exact ⟨d, List.mem_cons_of_mem _ h1, h2⟩
  | _, _, .take (d := d) _ hs t, e, h => by
    rcases List.mem_cons.mp h with rfl | h
    · exact ⟨d, List.mem_cons_self, hs⟩
    · obtain ⟨d, h1, h2⟩ := coll_mem t e h
      exact ⟨d, List.mem_cons_of_mem _ h1, h2⟩
theorem coll_all {S : PD → Sl → Prop} : ∀ {l r : List PD}, Coll (fun _ => Eq true) S l r → r.length = l.length
  | _, _, .nil => rfl
  | _, _, .skip h _ => by cases h
  | _, _, .take _ _ t => congrArg (· + 1) (coll_all t)
theorem coll_sub {B : PD → Bool → Prop} : ∀ {l : List Nat} {r : List PD}, Coll B (fun d s => s = .da d) (l.map natD) r → ∃ S : List Nat, S.Sublist l ∧ r = S.map natD
  | [], _, h => by cases h; exact ⟨[], .slnil, rfl⟩
  | n :: l, r, h => by
    cases h with
    | skip _ t =>
      obtain ⟨S, h1, h2⟩ := coll_sub t
      exact ⟨S, h1.cons _, h2⟩
    | take _ hs t =>
      obtain ⟨S, h1, h2⟩ := coll_sub t
      injection hs with hs
      exact ⟨n :: S, h1.cons_cons _, by rw [hs, h2]; rfl⟩
theorem sub_range {n : Nat} {S : List Nat} (h : S.Sublist (List.range n)) : SubS n S := ⟨List.Pairwise.sublist h List.pairwise_lt_range, fun k hk => List.mem_range.mp (h.subset hk)⟩
section
variable {P : Program} {w : World} {K : PySem.W.Frag} {mg : Str → Option Value} {base : Heap} {f : Addr} {fd : FuncData} {k : Nat}
theorem d_pick (T : Txt K mg) (D1 : Def P w K mg base CX0 1 "_law_next" ["_law_stream_here", "_law_many"] (spF FNext)) (Fn : Fun K "_law_pick" "_law_pick" sPick f fd) (hm : mg "_law_pick" = some (.ref f)) (hb : Binds K fd ["_law_stream_here", "_law_rows"] []) : Def P w K mg base CX0 2 "_law_pick" ["_law_stream_here", "_law_rows"] (spF FPick) := by
  refine def_of Fn hm hb scPick (by rintro _ _ ⟨xs, _, _, rfl, _⟩; rfl) (fun cdv A outer s H E hr => ?_)
  rintro _ _ ⟨xs, hne, hz, rfl, rfl⟩ G0 H0
  have hpos : 0 < xs.length := List.length_pos_iff.mpr hne
  refine ss_ret (w_ixQ (S := fun s => ∃ d ∈ xs, s = .da d) (w_var (s := .da (.list xs)) 1) rfl (w_call D1 hr (ws_cons (w_var 0) (ws_one (w_lenL (w_var 1) T.len))) ⟨_, by omega, by omega, rfl, rfl⟩) (fun i hi => ?_)) (fun d h => h)
  obtain ⟨h0, h1⟩ := hi
  obtain ⟨j, rfl⟩ : ∃ j : Nat, i = j := ⟨i.toNat, by omega⟩
  have hlt : j < xs.length := by omega
  exact ⟨xs[j], atI_nat (List.getElem?_eq_getElem hlt), _, List.getElem_mem hlt, rfl⟩
theorem d_rng (T : Txt K mg) (D1 : Def P w K mg base CX0 1 "_law_next" ["_law_stream_here", "_law_many"] (spF FNext)) (Fn : Fun K "_law_range" "_law_range" sRng f fd) (hm : mg "_law_range" = some (.ref f)) (hb : Binds K fd ["_law_stream_here", "_law_width"] []) : Def P w K mg base CX0 2 "_law_range" ["_law_stream_here", "_law_width"] (spF FRng) := by
  refine def_of Fn hm hb scRng (by rintro _ _ ⟨w, _, _, rfl, _⟩; rfl) (fun cdv A outer s H E hr => ?_)
  rintro _ _ ⟨w, h1, h8, rfl, rfl⟩ G0 H0
  refine ss_ifQ (t_eqQ (w_call D1 hr (ws_cons (w_var 0) (ws_one w_int)) ⟨_, by decide, by decide, rfl, rfl⟩) w_int) (fun _ => ?_) (fun _ => ss_nil) ?_
  · refine ss_ret (w_tup [.int 0, .int (w - 1)] (ws_cons w_int (ws_one (w_sub (w_var 1) w_int)))) ?_
    rintro _ rfl
    exact ⟨(0, w - 1), ⟨Int.le_refl _, by show 0 ≤ w - 1; omega, Int.le_refl _⟩, rfl⟩
  · refine ss_set 2 (w_sortedQ (w_lstQ (ws_consQ (w_call D1 hr (ws_cons (w_var 0) (ws_one (w_var 1))) ⟨w, by omega, by omega, rfl, rfl⟩) (ws_consQ (w_call D1 hr (ws_cons (w_var 0) (ws_one (w_var 1))) ⟨w, by omega, by omega, rfl, rfl⟩) ws_nil)) ?_) ?_ T.sorted) ?_ scRng.nd rfl (Or.inl rfl)
    · rintro _ ⟨_, _, rfl, ⟨i, rfl, _⟩, _, _, rfl, ⟨j, rfl, _⟩, rfl⟩
      exact ⟨[.int i, .int j], rfl, by show 2 ≤ 1000; decide⟩
    · rintro _ ⟨ds, ⟨_, _, e, ⟨i, rfl, _⟩, _, _, rfl, ⟨j, rfl, _⟩, rfl⟩, rfl⟩
      have : ds = [.int i, .int j] := da_inj e
      subst this
      exact ⟨[i, j], rfl, by show 2 ≤ 100000; decide⟩
    · rintro _ ⟨ns, ns', ⟨ds, ⟨_, _, e, ⟨i, rfl, hi⟩, _, _, rfl, ⟨j, rfl, hj⟩, rfl⟩, e2⟩, rfl, hp, hw⟩
      have : ds = [.int i, .int j] := da_inj e
      subst this
      injection e2 with e2
      injection e2 with e2
      have : ns = [i, j] := ints_inj e2
      subst this
      have hl := hp.length_eq
      match ns', hl with
      | [x, y], _ =>
        have hx := hp.mem_iff (a := x)
        have hy := hp.mem_iff (a := y)
        simp only [List.mem_cons, List.not_mem_nil, or_false, true_or, or_true, true_iff] at hx hy
        have hxy : x ≤ y := by
          rw [List.pairwise_cons] at hw
          exact hw.1 y List.mem_cons_self
        refine ss_ret (w_tup [.int x, .int y] (ws_cons (w_ix (w_var 2) w_int) (ws_one (w_ix (w_var 2) w_int)))) ?_
        rintro _ rfl
        refine ⟨(x, y), ⟨?_, hxy, ?_⟩, rfl⟩
        · show 0 ≤ x
          rcases hx with rfl | rfl
          · exact hi.1
          · exact hj.1
        · show y ≤ w - 1
          rcases hy with rfl | rfl
          · have := hi.2; omega
          · have := hj.2; omega
theorem d_some (T : Txt K mg) (D1 : Def P w K mg base CX0 1 "_law_next" ["_law_stream_here", "_law_many"] (spF FNext)) (Fn : Fun K "_law_some" "_law_some" sSome f fd) (hm : mg "_law_some" = some (.ref f)) (hb : Binds K fd ["_law_stream_here", "_law_many"] []) : Def P w K mg base CX0 2 "_law_some" ["_law_stream_here", "_law_many"] (spF FSome) := by
  refine def_of Fn hm hb scSome (by rintro _ _ ⟨w, _, rfl, _⟩; rfl) (fun cdv A outer s H E hr => ?_)
  rintro _ _ ⟨n, hn, rfl, rfl⟩ G0 H0
  refine ss_ret (w_tupleQ (S := fun s => ∃ S : List Nat, S.Sublist (List.range n) ∧ s = .da (.list (S.map natD))) (W.imp (w_lcQ (own := [("_law_k", 2)]) (L := Eq ((List.range n).map natD)) (B := fun d b => ∃ i, (0 ≤ i ∧ i < 3) ∧ b = decide (i = 0)) (S := fun d s => s = .da d)
    (aT G0 H0 [.st, .da (.int (n : Int)), .no] M0) (fun d => aT G0 H0 [.st, .da (.int (n : Int)), .da d] M0) rfl scSome.nd ((wi_range (w_var 1) (by omega) T.range).to rfl) (blkOk_by (own := [("_law_k", 2)]) (N := ["_law_stream_here", "_law_many", "_law_k"]) (sc := defScope sSome) (by decide +kernel))
      (fun _ _ _ _ _ => pg_name (i := 2) scSome.nd rfl (Or.inl rfl)) (fun σ G H h => hw_aT (vs := [2]) σ G H h) (fun d _ => gt_name 2) (fun d _ s H C cl fp => pts_T1 (t_eqQ (P := fun i => 0 ≤ i ∧ i < 3) (w_call D1 hr (ws_cons (w_var (s := .st) (ρ := [.st, .da (.int (n : Int)), .da d]) 0) (ws_one w_int)) ⟨_, by decide, by decide, rfl, rfl⟩) w_int)) (fun d _ _ s H C cl fp => (w_var 2).imp fun _ h => h.symm) (by rintro _ rfl; rw [List.length_map, List.length_range]; omega) (by rintro d _ rfl; exact ⟨_, rfl⟩)) ?_) ?_ T.tuple) ?_
  · rintro _ ⟨_, r, rfl, hc, rfl⟩
    obtain ⟨S, h1, rfl⟩ := coll_sub hc
    exact ⟨S, h1, rfl⟩
  · rintro _ ⟨S, _, rfl⟩
    exact ⟨_, rfl⟩
  · rintro _ ⟨ds, ⟨S, h1, e⟩, rfl⟩
    injection e with e
    injection e with e
    exact ⟨S, sub_range h1, by rw [e]; rfl⟩
end
end Fc
/-! FcR: the law's own lists, cases, matches, comparison. -/
namespace Fc
open PySem PySem.Spec PyProof.Rows L2
open Evl (Ex)
theorem gt_ex {ι : Type} {P : ι → Prop} {A A' : ι → As} {g : TG} {vs : List Nat} {d : PD} (h : ∀ i, P i → GT g vs (A i) d (A' i)) : GT g vs (exA P A) d (exA P A') := by
  rintro σ G H v s ⟨i, hi, as⟩ dv Q q
  exact h i hi σ G H v s as dv Q fun σ' G' H' hw n as' => q σ' G' H' hw n ⟨i, hi, as'⟩
theorem Wi.pre {X : Cx} {A A' : As} {tg e : Expr} {L : List PD → Prop} (h : Wi X A tg e L) (k : ∀ σ G H, A'.p σ G H → A.p σ G H) : Wi X A' tg e L := PI.wk h fun σ H R ⟨G, s, as, q⟩ => ⟨G, s, k _ _ _ as, q⟩
/-! ### _law_list -/
def FLst (ss : List Sl) (S : Sl → Prop) : Prop := ∃ most : Int, 1 ≤ most ∧ most ≤ 8 ∧ ss = [.st, .da (.int 3), .da (.int most), .da (.int 7)] ∧ S = fun s => ∃ L, OkL L ∧ s = .da (encL L)
abbrev sLst : Stmt := topS 35
abbrev nLst : List Str := ["_law_stream_here", "_law_fields", "_law_most", "_law_rules", "_law_k", "_law_widths", "_law_actions", "_law_found", "_law_width"]
theorem scLst : FnScope nLst ["_law_stream_here", "_law_fields", "_law_most", "_law_rules"] (defScope sLst) := ⟨rfl, rfl, rfl, by decide +kernel, rfl, by decide +kernel, by decide +kernel⟩
theorem coll_ints {S : PD → Sl → Prop} {P : Int → Prop} (hS : ∀ d e, S d (.da e) → ∃ i, e = .int i ∧ P i) {l r : List PD} (h : Coll (fun _ => Eq true) S l r) : ∃ ws : List Int, r = ws.map .int ∧ ws.length = l.length ∧ ∀ w ∈ ws, P w := by
  have hm := coll_mem h
  have hl := coll_all h
  have : ∀ r : List PD, (∀ e ∈ r, ∃ d ∈ l, S d (.da e)) → ∃ ws : List Int, r = ws.map .int ∧ ws.length = r.length ∧ ∀ w ∈ ws, P w := by
    intro r
    induction r with
    | nil => exact fun _ => ⟨[], rfl, rfl, fun w h => by simp at h⟩
    | cons e r ih =>
      intro hr
      obtain ⟨ws, h1, h2, h3⟩ := ih fun e he => hr e (List.mem_cons_of_mem _ he)
      obtain ⟨d, _, hd⟩ := hr e List.mem_cons_self
      obtain ⟨i, rfl, hi⟩ := hS d e hd
      refine ⟨i :: ws, by rw [h1]; rfl, by rw [List.length_cons, List.length_cons, h2], fun w hw => ?_⟩
      rcases List.mem_cons.mp hw with rfl | hw
      · exact hi
      · exact h3 w hw
  obtain ⟨ws, h1, h2, h3⟩ := this r hm
  exact ⟨ws, h1, by rw [h2, hl], h3⟩
theorem coll_rng {S : PD → Sl → Prop} (hS : ∀ w e, S (.int w) (.da e) → ∃ p, e = encG p ∧ OkP w p) : ∀ {ws : List Int} {r : List PD}, Coll (fun _ => Eq true) S (ws.map .int) r → ∃ ps : List (Int × Int), r = ps.map encG ∧ ps.length = ws.length ∧ ∀ (i : Nat) p w, ps[i]? = some p → ws[i]? = some w → OkP w p
  | [], r, h => by
    cases h
    exact ⟨[], rfl, rfl, fun i p w h => by simp at h⟩
  | w :: ws, r, h => by
    cases h with
    | skip hb _ => cases hb
    | take _ hs t =>
      obtain ⟨ps, h1, h2, h3⟩ := coll_rng hS t
      obtain ⟨p, rfl, hp⟩ := hS _ _ hs
      refine ⟨p :: ps, by rw [h1]; rfl, by rw [List.length_cons, List.length_cons, h2], fun i q v hq hv => ?_⟩
      cases i with
      | zero =>
        simp at hq hv
        rw [← hq, ← hv]
        exact hp
      | succ i => exact h3 i q v (by simpa using hq) (by simpa using hv)
section
variable {P : Program} {w : World} {K : PySem.W.Frag} {mg : Str → Option Value} {base : Heap} {f : Addr} {fd : FuncData} {k : Nat}
theorem d_lst (T : Txt K mg) (D1 : Def P w K mg base CX0 1 "_law_next" ["_law_stream_here", "_law_many"] (spF FNext)) (D2 : Def P w K mg base CX0 2 "_law_range" ["_law_stream_here", "_law_width"] (spF FRng)) (Fn : Fun K "_law_list" "_law_list" sLst f fd) (hm : mg "_law_list" = some (.ref f)) (hb : Binds K fd ["_law_stream_here", "_law_fields", "_law_most", "_law_rules"] []) : Def P w K mg base CX0 3 "_law_list" ["_law_stream_here", "_law_fields", "_law_most", "_law_rules"] (spF FLst) := by
  refine def_of Fn hm hb scLst (by rintro _ _ ⟨w, _, _, rfl, _⟩; rfl) (fun cdv A outer s H E hr => ?_)
  rintro _ _ ⟨most, h1, h8, rfl, rfl⟩ G0 H0
  have hr1 := hr.mono (j := 1) (by decide)
  refine ss_set 5 (w_tupleQ (S := fun s => ∃ ws : List Int, (1 ≤ ws.length ∧ ws.length ≤ 3) ∧ (∀ w ∈ ws, 1 ≤ w ∧ w ≤ 8) ∧ s = .da (.list (ws.map .int))) (W.imp (w_lcQ (own := [("_law_k", 4)]) (L := fun l => ∃ i : Int, (1 ≤ i ∧ i ≤ 3) ∧ l = rangeD i.toNat) (B := fun _ => Eq true) (S := fun _ => IntS fun i => 1 ≤ i ∧ i ≤ 8)
      (aT G0 H0 [.st, .da (.int 3), .da (.int most), .da (.int 7), .no, .no, .no, .no, .no] M0) (fun d => aT G0 H0 [.st, .da (.int 3), .da (.int most), .da (.int 7), .da d, .no, .no, .no, .no] M0) rfl scLst.nd
      (wi_rangeQ (P := fun i => 1 ≤ i ∧ i ≤ 3) (w_ints (P := fun i => 1 ≤ i ∧ i ≤ 3) (Pa := Eq 1) (Pb := fun i => 0 ≤ i ∧ i < 3) (rI0_rI op_add) (w_int.imp fun _ h => intS_of h) (w_call D1 hr1 (ws_cons (w_var 0) (ws_one (w_var 1))) ⟨_, by decide, by decide, rfl, rfl⟩) (by rintro _ j rfl hj; exact ⟨trivial, by omega, by omega⟩)) (by rintro i ⟨a, b⟩; omega) T.range)
      (blkOk_by (own := [("_law_k", 4)]) (N := nLst) (sc := defScope sLst) (by decide +kernel)) (fun _ _ _ _ _ => pg_name (i := 4) scLst.nd rfl (Or.inl rfl)) (fun σ G H h => hw_aT (vs := [4]) σ G H h) (fun d _ => gt_name 4) (fun d _ s H C cl fp => pts_T0)
      (fun d _ _ s H C cl fp => w_ints (P := fun i => 1 ≤ i ∧ i ≤ 8) (Pa := Eq 1) (Pb := fun i => 0 ≤ i ∧ i < most) (rI0_rI op_add) (w_int.imp fun _ h => intS_of h) (w_call D1 hr1 (ws_cons (w_var (s := .st) (ρ := [.st, .da (.int 3), .da (.int most), .da (.int 7), .da d, .no, .no, .no, .no]) 0) (ws_one (w_var 2))) ⟨_, by omega, by omega, rfl, rfl⟩) (by rintro _ j rfl hj; exact ⟨trivial, by omega, by omega⟩))
      (by rintro _ ⟨i, hi, rfl⟩; rw [rangeD_length]; omega) (by rintro d _ ⟨i, rfl, _⟩; exact ⟨_, rfl⟩)) ?_) ?_ T.tuple) ?_ scLst.nd rfl (Or.inl rfl)
  · rintro _ ⟨_, r, ⟨i, hi, rfl⟩, hc, rfl⟩
    obtain ⟨ws, rfl, hl, hw⟩ := coll_ints (P := fun i => 1 ≤ i ∧ i ≤ 8) (by rintro d e ⟨i, h, hi⟩; injection h with h; exact ⟨i, h, hi⟩) hc
    rw [rangeD_length] at hl
    exact ⟨ws, by omega, hw, rfl⟩
  · rintro _ ⟨ws, _, _, rfl⟩
    exact ⟨_, rfl⟩
  · rintro _ ⟨ds, ⟨ws, hwl, hws, e⟩, rfl⟩
    injection e with e
    injection e with e
    subst e
    refine ss_set 6 (w_ints (P := fun i => 2 ≤ i ∧ i ≤ 6) (Pa := Eq 2) (Pb := fun i => 0 ≤ i ∧ i < 5) (rI0_rI op_add) (w_int.imp fun _ h => intS_of h) (w_call D1 hr1 (ws_cons (w_var 0) (ws_one w_int)) ⟨_, by decide, by decide, rfl, rfl⟩) (by rintro _ j rfl hj; exact ⟨trivial, by omega, by omega⟩)) ?_ scLst.nd rfl (Or.inl rfl)
    rintro _ ⟨ac, rfl, ha⟩
    refine ss_lnew 7 (fun p => ?_) scLst.nd
    refine ss_for (vs := [4]) (L := fun l => ∃ i : Int, (0 ≤ i ∧ i < 8) ∧ l = rangeD i.toNat)
      (fun l i => exA (fun rs : List Rl => rs.length ≤ i ∧ ∀ r ∈ rs, OkR ws r) fun rs => aT G0 H0 [.st, .da (.int 3), .da (.int most), .da (.int 7), .no, .da (.tuple (ws.map .int)), .da (.int ac), .at (.ref p), .no] (Ml H0 p (rs.map encR)))
      (fun l i => exA (fun rs : List Rl => rs.length ≤ i ∧ ∀ r ∈ rs, OkR ws r) fun rs => aT G0 H0 [.st, .da (.int 3), .da (.int most), .da (.int 7), .da (l.getD i .none), .da (.tuple (ws.map .int)), .da (.int ac), .at (.ref p), .no] (Ml H0 p (rs.map encR)))
      PassesOwn.never rfl (wi_rangeQ (P := fun i => 0 ≤ i ∧ i < 8) (w_call D1 hr1 (ws_cons (w_var 0) (ws_one ((w_add (w_var 3) w_int).to (show PyData.int (7 + 1) = .int 8 from rfl)))) ⟨_, by decide, by decide, rfl, rfl⟩) (by rintro i ⟨a, b⟩; omega) T.range) (pg_name (i := 4) scLst.nd rfl (Or.inl rfl)) ?_ ?_ ?_ ?_
    · intro l _ σ G H h
      exact ⟨[], ⟨Nat.le_refl _, fun r hr => by simp at hr⟩, h⟩
    · intro l i d _ hd
      rw [getD_at hd]
      exact gt_ex fun rs _ => gt_name 4
    · rintro l i d ⟨z, hz, rfl⟩ hd
      have hi8 : i < 8 := by
        have := (List.getElem?_eq_some_iff.mp hd).1
        rw [rangeD_length] at this
        omega
      rw [getD_at hd]
      refine ss_ex fun rs hrs => ?_
      refine ss_append (S := fun s => ∃ r, OkR ws r ∧ s = .da (encR r)) (W.imp (w_tupQ (ws_consQ (w_call D1 hr1 (ws_cons (w_var 0) (ws_one (w_var 6))) ⟨ac, by omega, by omega, rfl, rfl⟩) (ws_consQ (w_tupleQ (S := fun s => ∃ ps : List (Int × Int), ps.length = ws.length ∧ (∀ (i : Nat) p w, ps[i]? = some p → ws[i]? = some w → OkP w p) ∧ s = .da (.list (ps.map encG))) (W.imp (w_lcQ (own := [("_law_width", 8)]) (L := Eq (ws.map .int)) (B := fun _ => Eq true) (S := fun d s => ∃ w p, d = .int w ∧ OkP w p ∧ s = .da (encG p))
        (aT G0 H0 [.st, .da (.int 3), .da (.int most), .da (.int 7), .da d, .da (.tuple (ws.map .int)), .da (.int ac), .at (.ref p), .no] (Ml H0 p (rs.map encR))) (fun e => aT G0 H0 [.st, .da (.int 3), .da (.int most), .da (.int 7), .da d, .da (.tuple (ws.map .int)), .da (.int ac), .at (.ref p), .da e] (Ml H0 p (rs.map encR))) rfl scLst.nd
        (wi_tup (w_var 5)) (blkOk_by (own := [("_law_width", 8)]) (N := nLst) (sc := defScope sLst) (by decide +kernel)) (fun _ _ _ _ _ => pg_name (i := 8) scLst.nd rfl (Or.inl rfl)) (fun σ G H h => hw_aT (vs := [8]) σ G H h) (fun d _ => gt_name 8) (fun d _ s H C cl fp => pts_T0) ?_ ?_ ?_) ?_) ?_ T.tuple) ws_nil)) ?_) ?_) (w_var 7) ?_ ?_ ?_
      · rintro e ⟨_, rfl, he⟩ _ s H C cl fp
        obtain ⟨w, hw, rfl⟩ := List.mem_map.mp he
        have hw8 := hws w hw
        refine (w_call D2 hr (ws_cons (w_var (s := .st) 0) (ws_one (w_var (s := .da (.int w)) 8))) ⟨w, hw8.1, hw8.2, rfl, rfl⟩).imp ?_
        rintro _ ⟨q, hq, rfl⟩
        exact ⟨w, q, rfl, hq, rfl⟩
      · rintro _ rfl
        rw [List.length_map]
        omega
      · rintro _ _ ⟨_, _, _, _, rfl⟩
        exact ⟨_, rfl⟩
      · rintro _ ⟨_, r, rfl, hc, rfl⟩
        obtain ⟨ps, rfl, h1, h2⟩ := coll_rng (by
          rintro w e ⟨w', q, hw, hq, he⟩
          injection hw with hw
          injection he with he
          subst hw
          exact ⟨q, he, hq⟩) hc
        exact ⟨ps, h1, h2, rfl⟩
      · rintro _ ⟨ps, _, _, rfl⟩
        exact ⟨_, rfl⟩
      · rintro _ ⟨_, _, rfl, ⟨a, rfl, _⟩, _, _, rfl, ⟨ds, _, rfl⟩, rfl⟩
        exact ⟨[.int a, .tuple ds], rfl, by show 2 ≤ 1000; decide⟩
      · rintro _ ⟨es, ⟨_, _, e, ⟨a, rfl, ha'⟩, _, _, rfl, ⟨ds, ⟨ps, hp1, hp2, e2⟩, rfl⟩, rfl⟩, rfl⟩
        have : es = [.int a, .tuple ds] := da_inj e
        subst this
        injection e2 with e2
        injection e2 with e2
        subst e2
        exact ⟨⟨a, ps⟩, ⟨ha'.1, by show a ≤ 5; omega, hp1, fun i q w h1 h2 => hp2 i q w h1 h2⟩, rfl⟩
      · rw [List.length_map]
        omega
      · rintro _ ⟨r, _, rfl⟩
        exact ⟨_, rfl⟩
      · rintro _ ⟨r, hr, e⟩
        injection e with e
        subst e
        refine ss_toEx (rs ++ [r]) ⟨by rw [List.length_append]; show rs.length + 1 ≤ i + 1; omega, fun q hq => ?_⟩ ?_
        · rcases List.mem_append.mp hq with hq | hq
          · exact hrs.2 q hq
          · rw [List.mem_singleton.mp hq]; exact hr
        · refine Ss.post ss_nil fun σ G H h => ?_
          have := aT_wk (ρ' := [.st, .da (.int 3), .da (.int most), .da (.int 7), .no, .da (.tuple (ws.map .int)), .da (.int ac), .at (.ref p), .no]) (ρ := [.st, .da (.int 3), .da (.int most), .da (.int 7), .da d, .da (.tuple (ws.map .int)), .da (.int ac), .at (.ref p), .no]) ⟨.inr rfl, .inr rfl, .inr rfl, .inr rfl, .inl rfl, .inr rfl, .inr rfl, .inr rfl, .inr rfl, trivial⟩ σ G H h
          rw [List.map_append]
          exact this
    · rintro _ ⟨z, hz, rfl⟩
      refine ss_ex fun rs hrs => ?_
      rw [rangeD_length] at hrs
      refine ss_ret (w_tupQ (ws_consQ (w_var 5) (ws_consQ (w_tupleM (w_var 7) T.tuple) (ws_consQ (w_call D1 hr1 (ws_cons (w_var 0) (ws_one (w_var 6))) ⟨ac, by omega, by omega, rfl, rfl⟩) ws_nil))) ?_) ?_
      · rintro _ ⟨_, _, rfl, rfl, _, _, rfl, rfl, _, _, rfl, ⟨a, rfl, _⟩, rfl⟩
        exact ⟨[.tuple (ws.map .int), .tuple (rs.map encR), .int a], rfl, by show 3 ≤ 1000; decide⟩
      · rintro _ ⟨es, ⟨_, _, e, rfl, _, _, rfl, rfl, _, _, rfl, ⟨a, rfl, ha'⟩, rfl⟩, rfl⟩
        have : es = [.tuple (ws.map .int), .tuple (rs.map encR), .int a] := da_inj e
        subst this
        exact ⟨⟨ws, rs, a⟩, ⟨hwl.1, hwl.2, hws, by show rs.length ≤ 7; omega, hrs.2, ha'.1, by show a ≤ 5; omega⟩, rfl⟩
end
end Fc
/-! FcS: the law's cases, matches, comparison, what is told, the names. -/
namespace Fc
open PySem PySem.Spec PyProof.Rows L2
open Evl (Ex)
/-! ### _law_cases -/
abbrev sLCases : Stmt := topS 36
abbrev nLCases : List Str := ["_law_widths", "_law_rows", "_law_width", "_law_longer", "_law_row", "_law_value"]
theorem scLCases : FnScope nLCases ["_law_widths"] (defScope sLCases) := ⟨rfl, rfl, rfl, by decide +kernel, rfl, by decide +kernel, by decide +kernel⟩
/-! ### _law_matches -/
abbrev sLMatch : Stmt := topS 37
abbrev nLMatch : List Str := ["_law_listed", "_law_number", "_law_case", "_law_ranges", "_law_k"]
theorem scLMatch : FnScope nLMatch ["_law_listed", "_law_number", "_law_case"] (defScope sLMatch) := ⟨rfl, rfl, rfl, by decide +kernel, rfl, by decide +kernel, by decide +kernel⟩
theorem mtch_range (L : Li) (k : Nat) (c : List Int) : ((List.range c.length).all fun i => decide ((rngOf L k i).1 ≤ c.getD i 0) && decide (c.getD i 0 ≤ (rngOf L k i).2)) = mtch L k c := by
  unfold mtch
  rw [Bool.eq_iff_iff, List.all_eq_true, List.all_eq_true]
  constructor
  · intro h p hp
    have hp' := zipIdx_at hp
    have hlt := (List.getElem?_eq_some_iff.mp hp').1
    have := h p.2 (List.mem_range.mpr hlt)
    rw [getD_at hp'] at this
    exact this
  · intro h i hi
    have hlt := List.mem_range.mp hi
    have hg : c[i]? = some c[i] := List.getElem?_eq_getElem hlt
    have := h (c[i], i) (by rw [List.mem_zipIdx_iff_getElem?]; exact hg)
    rw [getD_at hg]
    exact this
/-! ### _law_is_integer, _law_equal -/
def isIntD : PD → Bool
  | .int _ => true
  | _ => false
def FIsInt (ss : List Sl) (S : Sl → Prop) : Prop := ∃ d, ss = [.da d] ∧ S = Eq (.da (.bool (isIntD d)))
abbrev sIsInt : Stmt := topS 31
theorem scIsInt : FnScope ["_law_actual"] ["_law_actual"] (defScope sIsInt) := ⟨rfl, rfl, rfl, by decide +kernel, rfl, by decide +kernel, by decide +kernel⟩
def flatE : PD → Prop
  | .none => True
  | .int _ => True
  | .str _ => True
  | _ => False
def FEq (C : PD → Prop) (ss : List Sl) (S : Sl → Prop) : Prop := ∃ d, C d ∧ ss = [.da d, .da d] ∧ S = Eq (.da (.bool true))
def upC (C : PD → Prop) (d : PD) : Prop := flatE d ∨ ∃ xs, seqD d = some xs ∧ xs.length ≤ 1000 ∧ ∀ x ∈ xs, C x
abbrev sEqual : Stmt := topS 32
abbrev nEqual : List Str := ["_law_actual", "_law_due", "_law_at"]
theorem scEqual : FnScope nEqual ["_law_actual", "_law_due"] (defScope sEqual) := ⟨rfl, rfl, rfl, by decide +kernel, rfl, by decide +kernel, by decide +kernel⟩
section
variable {P : Program} {w : World} {K : PySem.W.Frag} {mg : Str → Option Value} {base : Heap} {f : Addr} {fd : FuncData} {k : Nat}
theorem d_lcases (T : Txt K mg) (Fn : Fun K "_law_cases" "_law_cases" sLCases f fd) (hm : mg "_law_cases" = some (.ref f)) (hb : Binds K fd ["_law_widths"] []) : Def P w K mg base CX0 1 "_law_cases" ["_law_widths"] (spF FCases) := by
  refine def_of Fn hm hb scLCases (by rintro _ _ ⟨ws, _, _, rfl, rfl⟩; rfl) (fun cdv A outer s H E hr => ?_)
  rintro _ _ ⟨ws, h3, hw, rfl, rfl⟩ G0 H0
  refine ss_setD 1 (w_lst [.tuple []] (ws_one (w_tup [] ws_nil))) ?_ scLCases.nd
  refine ss_for (vs := [2]) (fun l i => aT G0 H0 [.da (.tuple (ws.map .int)), .da (.list ((casesM (ws.take i)).map encC)), .no, .no, .no, .no] M0) (fun l i => aT G0 H0 [.da (.tuple (ws.map .int)), .da (.list ((casesM (ws.take i)).map encC)), .da (l.getD i .none), .no, .no, .no] M0)
    PassesOwn.never rfl (wi_tup (w_var 0)) (pg_name (i := 2) scLCases.nd rfl (Or.inl rfl)) ?_ ?_ ?_ ?_
  · rintro _ rfl
    exact aT_wk ⟨.inr rfl, .inr rfl, .inl rfl, .inl rfl, .inl rfl, .inl rfl, trivial⟩
  · rintro _ i d rfl hd
    rw [getD_at hd]
    exact gt_name 2
  · rintro _ i d rfl hd
    rw [getD_at hd]
    rw [List.getElem?_map] at hd
    obtain ⟨x, hx, rfl⟩ := Option.map_eq_some_iff.mp hd
    have hxm := List.mem_of_getElem? hx
    have hx1 := hw x hxm
    have hlt := (List.getElem?_eq_some_iff.mp hx).1
    have hle := casesM_le i ws hw (by omega)
    have h8 : 8 ^ i ≤ 8 ^ 2 := Nat.pow_le_pow_right (by decide) (by omega)
    have h64 : (8 : Nat) ^ 2 = 64 := by decide
    refine ss_lnew 3 (fun p => ?_) scLCases.nd
    have hlen : ∀ j, (stepM ((casesM (ws.take i)).take j) x).length ≤ 512 := by
      intro j
      rw [stepM_length, List.length_take]
      have : min j (casesM (ws.take i)).length * x.toNat ≤ 64 * 8 := Nat.mul_le_mul (by omega) (by omega)
      omega
    refine ss_for (vs := [4]) (fun l j => aT G0 H0 [.da (.tuple (ws.map .int)), .da (.list ((casesM (ws.take i)).map encC)), .da (.int x), .at (.ref p), .no, .no] (Ml H0 p ((stepM ((casesM (ws.take i)).take j) x).map encC)))
      (fun l j => aT G0 H0 [.da (.tuple (ws.map .int)), .da (.list ((casesM (ws.take i)).map encC)), .da (.int x), .at (.ref p), .da (l.getD j .none), .no] (Ml H0 p ((stepM ((casesM (ws.take i)).take j) x).map encC)))
      PassesOwn.never rfl (wi_lst (w_var 1)) (pg_name (i := 4) scLCases.nd rfl (Or.inr rfl)) ?_ ?_ ?_ ?_
    · rintro _ rfl σ G H h
      exact h
    · rintro _ j d rfl hd
      rw [getD_at hd]
      exact gt_name 4
    · rintro _ j d rfl hd
      rw [getD_at hd]
      rw [List.getElem?_map] at hd
      obtain ⟨c, hc, rfl⟩ := Option.map_eq_some_iff.mp hd
      have hcl := casesM_len (List.mem_of_getElem? hc)
      refine ss_extend (es := (List.range x.toNat).map fun (v : Nat) => encC (c ++ [(v : Int)])) (w_lc0 (own := [("_law_value", 5)]) (List.range x.toNat) natD (fun v => aT G0 H0 [.da (.tuple (ws.map .int)), .da (.list ((casesM (ws.take i)).map encC)), .da (.int x), .at (.ref p), .da (encC c), .da (natD v)] (Ml H0 p ((stepM ((casesM (ws.take i)).take j) x).map encC))) (fun (v : Nat) => encC (c ++ [(v : Int)])) rfl scLCases.nd
        ((wi_rangeQ (P := Eq x) ((w_var (s := .da (.int x)) 2).imp fun _ z => intS_of z) (by rintro _ rfl; omega) T.range).imp (by rintro _ ⟨_, rfl, rfl⟩; rfl)) (blkOk_by (own := [("_law_value", 5)]) (N := nLCases) (sc := defScope sLCases) (by decide +kernel)) (fun _ _ _ _ _ => pg_name (i := 5) scLCases.nd rfl (Or.inl rfl)) (fun a _ => gt_name 5)
        (fun v _ s H C cl fp => ?_) natD_inj (by rw [List.length_range]; omega)) (w_var 3) ?_ ?_
      · exact W.to (w_catT (xs := c.map .int) (ys := [.int (v : Int)]) (w_var (ρ := [.da (.tuple (ws.map .int)), .da (.list ((casesM (ws.take i)).map encC)), .da (.int x), .at (.ref p), .da (encC c), .da (natD v)]) 4) (w_tup [.int (v : Int)] (ws_one (w_var (ρ := [.da (.tuple (ws.map .int)), .da (.list ((casesM (ws.take i)).map encC)), .da (.int x), .at (.ref p), .da (encC c), .da (natD v)]) 5))) (by
          rw [List.length_map, hcl, List.length_take]
          simp
          omega)) (by unfold encC; rw [List.map_append]; rfl)
      · rw [List.length_map, List.length_map, List.length_range]
        have := hlen j
        omega
      · refine Ss.post ss_nil fun σ G H h => ?_
        have e : (stepM ((casesM (ws.take i)).take (j + 1)) x).map encC = (stepM ((casesM (ws.take i)).take j) x).map encC ++ (List.range x.toNat).map fun (v : Nat) => encC (c ++ [(v : Int)]) := by
          have ht : (casesM (ws.take i)).take (j + 1) = (casesM (ws.take i)).take j ++ [c] := by
            obtain ⟨h1, e⟩ := List.getElem?_eq_some_iff.mp hc
            rw [← e]
            exact (List.take_append_getElem h1).symm
          rw [ht]
          unfold stepM
          rw [List.flatMap_append, List.map_append, List.flatMap_singleton, List.map_map]
          rfl
        rw [e]
        exact aT_wk (ρ' := [.da (.tuple (ws.map .int)), .da (.list ((casesM (ws.take i)).map encC)), .da (.int x), .at (.ref p), .no, .no]) (ρ := [.da (.tuple (ws.map .int)), .da (.list ((casesM (ws.take i)).map encC)), .da (.int x), .at (.ref p), .da (encC c), .no]) ⟨.inr rfl, .inr rfl, .inr rfl, .inr rfl, .inl rfl, .inr rfl, trivial⟩ σ G H h
    · rintro _ rfl
      rw [List.length_map, List.take_length]
      refine ss_take 1 (w_var 3) ?_ scLCases.nd
      refine Ss.post ss_nil fun σ G H h => ?_
      rw [casesM_take hx]
      exact aT_wk (ρ' := [.da (.tuple (ws.map .int)), .da (.list ((stepM (casesM (ws.take i)) x).map encC)), .no, .no, .no, .no]) (ρ := [.da (.tuple (ws.map .int)), .da (.list ((stepM (casesM (ws.take i)) x).map encC)), .da (.int x), .at (.ref p), .no, .no]) ⟨.inr rfl, .inr rfl, .inl rfl, .inl rfl, .inr rfl, .inr rfl, trivial⟩ σ G H h
  · rintro _ rfl
    refine ss_ret (w_var 1) ?_
    rintro _ rfl
    show _ = _
    rw [List.length_map, List.take_length]
theorem d_lmatch (T : Txt K mg) (Fn : Fun K "_law_matches" "_law_matches" sLMatch f fd) (hm : mg "_law_matches" = some (.ref f)) (hb : Binds K fd ["_law_listed", "_law_number", "_law_case"] []) : Def P w K mg base CX0 1 "_law_matches" ["_law_listed", "_law_number", "_law_case"] (spF FMatch) := by
  refine def_of Fn hm hb scLMatch (by rintro _ _ ⟨L, k, c, _, _, _, rfl, rfl⟩; rfl) (fun cdv A outer s H E hr => ?_)
  rintro _ _ ⟨L, k, c, hL, hk, hc, rfl, rfl⟩ G0 H0
  have hr' : L.rules[k]? = some L.rules[k] := List.getElem?_eq_getElem hk
  have hR := hL.rv _ (List.getElem_mem hk)
  generalize hrr : L.rules[k] = r at *
  have eI : atI (L.rules.map encR) (k : Int) = some (encR r) := atI_nat (by rw [List.getElem?_map, hr']; rfl)
  refine ss_setD 3 (w_it 1 (w_ix (w_L1 (w_var 0)) (w_var (s := .da (natD k)) 1) rfl eI) rfl (by show 1 < 2; decide)) ?_ scLMatch.nd
  refine ss_ret (w_allF (b := fun i => decide ((rngOf L k i).1 ≤ c.getD i 0) && decide (c.getD i 0 ≤ (rngOf L k i).2)) rfl (w_lc0 (own := [("_law_k", 4)]) (List.range c.length) natD (fun i => aT G0 H0 [.da (encL L), .da (natD k), .da (encC c), .da (.tuple (r.rs.map encG)), .da (natD i)] M0) (fun i => .bool (decide ((rngOf L k i).1 ≤ c.getD i 0) && decide (c.getD i 0 ≤ (rngOf L k i).2))) rfl scLMatch.nd
      ((wi_range (n := c.length) ((w_lenT (xs := c.map .int) (w_var (s := .da (encC c)) 2) T.len).to (by rw [List.length_map])) (by have := hL.w3; omega) T.range).to rfl) (blkOk_by (own := [("_law_k", 4)]) (N := nLMatch) (sc := defScope sLMatch) (by decide +kernel))
          (fun _ _ _ _ _ => pg_name (i := 4) scLMatch.nd rfl (Or.inl rfl)) (fun a _ => gt_name 4) (fun i hi s H C cl fp => ?_) natD_inj (by rw [List.length_range]; have := hL.w3; omega)) T.all) ?_
  · have hlt := List.mem_range.mp hi
    have hg : c[i]? = some c[i] := List.getElem?_eq_getElem hlt
    have hlt2 : i < r.rs.length := by rw [hR.len]; omega
    have hq : r.rs[i]? = some r.rs[i] := List.getElem?_eq_getElem hlt2
    have e2 : rngOf L k i = r.rs[i] := by
      unfold rngOf
      rw [hr']
      exact getD_at hq
    rw [e2, getD_at hg]
    generalize r.rs[i] = q at *
    generalize c[i] = z at *
    have eJ : atI (r.rs.map encG) (i : Int) = some (encG q) := atI_nat (by rw [List.getElem?_map, hq]; rfl)
    have eZ : atI (c.map PyData.int) (i : Int) = some (.int z) := atI_nat (by rw [List.getElem?_map, hg]; rfl)
    exact w_and (w_cmp cmp_le (w_it 0 (w_ix (w_var 3) (w_var (s := .da (natD i)) 4) rfl eJ) rfl (by show 0 < 2; decide)) (w_ix (xs := c.map .int) (w_var (s := .da (encC c)) 2) (w_var (s := .da (natD i)) 4) rfl eZ)) fun _ =>
      w_one (w_cmp cmp_le (w_ix (xs := c.map .int) (w_var (s := .da (encC c)) 2) (w_var (s := .da (natD i)) 4) rfl eZ) (w_it 1 (w_ix (w_var 3) (w_var (s := .da (natD i)) 4) rfl eJ) rfl (by show 1 < 2; decide)))
  · rintro _ rfl
    rw [mtch_range]
theorem d_isint (T : Txt K mg) (Fn : Fun K "_law_is_integer" "_law_is_integer" sIsInt f fd) (hm : mg "_law_is_integer" = some (.ref f)) (hb : Binds K fd ["_law_actual"] []) : Def P w K mg base CX0 1 "_law_is_integer" ["_law_actual"] (spF FIsInt) := by
  refine def_of Fn hm hb scIsInt (by rintro _ _ ⟨d, rfl, rfl⟩; rfl) (fun cdv A outer s H E hr => ?_)
  rintro _ _ ⟨d, rfl, rfl⟩ G0 H0
  refine ss_ret (w_and (w_isi (w_var 0) (w_ty (T := "int") T.int (by decide +kernel)) (kit_int d) T.isi) fun h1 => w_one (w_not (w_isi (w_var 0) (w_ty (T := "bool") T.bool (by decide +kernel)) (kit_bool d) T.isi))) ?_
  rintro _ rfl
  cases d <;> rfl
theorem d_equal {C : PD → Prop} {j : Nat} (T : Txt K mg) (D1 : Def P w K mg base CX0 1 "_law_is_integer" ["_law_actual"] (spF FIsInt)) (hj : 1 ≤ j) (D2 : (∃ x, C x) → Def P w K mg base CX0 j "_law_equal" ["_law_actual", "_law_due"] (spF (FEq C))) (Fn : Fun K "_law_equal" "_law_equal" sEqual f fd) (hm : mg "_law_equal" = some (.ref f)) (hb : Binds K fd ["_law_actual", "_law_due"] []) : Def P w K mg base CX0 (j + 1) "_law_equal" ["_law_actual", "_law_due"] (spF (FEq (upC C))) := by
  refine def_of Fn hm hb scEqual (by rintro _ _ ⟨d, _, rfl, rfl⟩; rfl) (fun cdv A outer s H E hr => ?_)
  rintro _ _ ⟨d, hd, rfl, rfl⟩ G0 H0
  have hr1 := hr.mono hj
  cases d with
  | none =>
    refine ss_ifR ((t_cmp cmp_isN (w_var 1) w_non).to rfl) (ss_ret (w_cmp cmp_isN (w_var 0) w_non) ?_)
    rintro _ rfl
    rfl
  | int i =>
    refine ss_ifN ((t_cmp cmp_isN (w_var 1) w_non).to rfl) ?_
    refine ss_ifN ((t_val (w_isi (w_var 1) (w_ty (T := "bool") T.bool (by decide +kernel)) (kit_bool _) T.isi)).to rfl) ?_
    refine ss_ifR ((t_val (w_isi (w_var 1) (w_ty (T := "int") T.int (by decide +kernel)) (kit_int _) T.isi)).to rfl) ?_
    refine ss_ret (w_and (w_call D1 hr1 (ws_one (w_var 0)) ⟨_, rfl, rfl⟩) fun _ => w_one (w_cmp cmp_eqI (w_var 0) (w_var 1))) ?_
    rintro _ rfl
    simp [isIntD]
  | str x =>
    refine ss_ifN ((t_cmp cmp_isN (w_var 1) w_non).to rfl) ?_
    refine ss_ifN ((t_val (w_isi (w_var 1) (w_ty (T := "bool") T.bool (by decide +kernel)) (kit_bool _) T.isi)).to rfl) ?_
    refine ss_ifN ((t_val (w_isi (w_var 1) (w_ty (T := "int") T.int (by decide +kernel)) (kit_int _) T.isi)).to rfl) ?_
    refine ss_ifR ((t_val (w_isi (w_var 1) (w_ty (T := "str") T.str (by decide +kernel)) (kit_str _) T.isi)).to rfl) ?_
    refine ss_ret (w_and (w_isi (w_var 0) (w_ty (T := "str") T.str (by decide +kernel)) (kit_str _) T.isi) fun _ => w_one (w_cmp cmp_eqS (w_var 0) (w_var 1))) ?_
    rintro _ rfl
    simp
  | bool b =>
    rcases hd with hd | ⟨xs, hx, _⟩
    · exact hd.elim
    · cases hx
  | dict b =>
    rcases hd with hd | ⟨xs, hx, _⟩
    · exact hd.elim
    · cases hx
  | tuple xs =>
    obtain ⟨hz, hC⟩ : xs.length ≤ 1000 ∧ ∀ x ∈ xs, C x := by
      rcases hd with hd | ⟨ys, hx, h1, h2⟩
      · exact hd.elim
      · cases hx; exact ⟨h1, h2⟩
    refine ss_ifN ((t_cmp cmp_isN (w_var 1) w_non).to rfl) ?_
    refine ss_ifN ((t_val (w_isi (w_var 1) (w_ty (T := "bool") T.bool (by decide +kernel)) (kit_bool _) T.isi)).to rfl) ?_
    refine ss_ifN ((t_val (w_isi (w_var 1) (w_ty (T := "int") T.int (by decide +kernel)) (kit_int _) T.isi)).to rfl) ?_
    refine ss_ifN ((t_val (w_isi (w_var 1) (w_ty (T := "str") T.str (by decide +kernel)) (kit_str _) T.isi)).to rfl) ?_
    refine ss_ifN ((t_w (tw_and (t_val (w_isi (w_var 1) (w_ty (T := "tuple") T.tuple (by decide +kernel)) (kit_tuple _) T.isi)) fun _ => tw_and1 (t_not (t_val (w_isi (w_var 0) (w_ty (T := "tuple") T.tuple (by decide +kernel)) (kit_tuple _) T.isi))))).to rfl) ?_
    refine ss_ifN ((t_w (tw_and (y := false) (t_val (w_isi (w_var 1) (w_ty (T := "list") T.list (by decide +kernel)) (kit_list _) T.isi)) fun z => by cases z)).to rfl) ?_
    refine ss_ifN ((t_cmp cmp_neI (w_lenT (w_var 0) T.len) (w_lenT (w_var 1) T.len)).to (by rw [decide_eq_true rfl]; rfl)) ?_
    refine ss_ret (w_allF (b := fun _ => true) rfl (w_lc0 (own := [("_law_at", 2)]) (List.range xs.length) natD (fun i => aT G0 H0 [.da (.tuple xs), .da (.tuple xs), .da (natD i)] M0) (fun i => .bool true) rfl scEqual.nd
      ((wi_range (n := xs.length) (w_lenT (w_var 1) T.len) (by omega) T.range).to rfl) (blkOk_by (own := [("_law_at", 2)]) (N := nEqual) (sc := defScope sEqual) (by decide +kernel))
          (fun _ _ _ _ _ => pg_name (i := 2) scEqual.nd rfl (Or.inl rfl)) (fun a _ => gt_name 2) (fun i hi s H Ca cl fp => ?_) natD_inj (by rw [List.length_range]; omega)) T.all) ?_
    · have hlt := List.mem_range.mp hi
      have hg : atI xs (i : Int) = some xs[i] := atI_nat (List.getElem?_eq_getElem hlt)
      have hCi := hC _ (List.getElem_mem hlt)
      exact w_call (D2 ⟨_, hCi⟩) hr (ws_cons (w_ix (w_var 0) (w_var (s := .da (natD i)) 2) rfl hg) (ws_one (w_ix (w_var 1) (w_var (s := .da (natD i)) 2) rfl hg))) ⟨_, hCi, rfl, rfl⟩
    · rintro _ rfl
      congr 2
      symm
      rw [List.all_eq_true]
      intro _ _
      rfl
  | list xs =>
    obtain ⟨hz, hC⟩ : xs.length ≤ 1000 ∧ ∀ x ∈ xs, C x := by
      rcases hd with hd | ⟨ys, hx, h1, h2⟩
      · exact hd.elim
      · cases hx; exact ⟨h1, h2⟩
    refine ss_ifN ((t_cmp cmp_isN (w_var 1) w_non).to rfl) ?_
    refine ss_ifN ((t_val (w_isi (w_var 1) (w_ty (T := "bool") T.bool (by decide +kernel)) (kit_bool _) T.isi)).to rfl) ?_
    refine ss_ifN ((t_val (w_isi (w_var 1) (w_ty (T := "int") T.int (by decide +kernel)) (kit_int _) T.isi)).to rfl) ?_
    refine ss_ifN ((t_val (w_isi (w_var 1) (w_ty (T := "str") T.str (by decide +kernel)) (kit_str _) T.isi)).to rfl) ?_
    refine ss_ifN ((t_w (tw_and (y := false) (t_val (w_isi (w_var 1) (w_ty (T := "tuple") T.tuple (by decide +kernel)) (kit_tuple _) T.isi)) fun z => by cases z)).to rfl) ?_
    refine ss_ifN ((t_w (tw_and (t_val (w_isi (w_var 1) (w_ty (T := "list") T.list (by decide +kernel)) (kit_list _) T.isi)) fun _ => tw_and1 (t_not (t_val (w_isi (w_var 0) (w_ty (T := "list") T.list (by decide +kernel)) (kit_list _) T.isi))))).to rfl) ?_
    refine ss_ifN ((t_cmp cmp_neI (w_lenL (w_var 0) T.len) (w_lenL (w_var 1) T.len)).to (by rw [decide_eq_true rfl]; rfl)) ?_
    refine ss_ret (w_allF (b := fun _ => true) rfl (w_lc0 (own := [("_law_at", 2)]) (List.range xs.length) natD (fun i => aT G0 H0 [.da (.list xs), .da (.list xs), .da (natD i)] M0) (fun i => .bool true) rfl scEqual.nd
      ((wi_range (n := xs.length) (w_lenL (w_var 1) T.len) (by omega) T.range).to rfl) (blkOk_by (own := [("_law_at", 2)]) (N := nEqual) (sc := defScope sEqual) (by decide +kernel))
          (fun _ _ _ _ _ => pg_name (i := 2) scEqual.nd rfl (Or.inl rfl)) (fun a _ => gt_name 2) (fun i hi s H Ca cl fp => ?_) natD_inj (by rw [List.length_range]; omega)) T.all) ?_
    · have hlt := List.mem_range.mp hi
      have hg : atI xs (i : Int) = some xs[i] := atI_nat (List.getElem?_eq_getElem hlt)
      have hCi := hC _ (List.getElem_mem hlt)
      exact w_call (D2 ⟨_, hCi⟩) hr (ws_cons (w_ix (w_var 0) (w_var (s := .da (natD i)) 2) rfl hg) (ws_one (w_ix (w_var 1) (w_var (s := .da (natD i)) 2) rfl hg))) ⟨_, hCi, rfl, rfl⟩
    · rintro _ rfl
      congr 2
      symm
      rw [List.all_eq_true]
      intro _ _
      rfl
end
end Fc
/-! FcT: a tuple once; try; what is told, the names. -/
namespace L2
open PySem PySem.Spec PyProof.Rows
theorem tuple_mul1 (l : Addr) (items : Array Value) (n : Nat) (dd : Option Addr) (sl : Array (Option Value)) (u : Tok) :
    Meets (Builtin.«tuple.__mul__» ⟨[.ref l, .int 1 u], []⟩) (fun _ R s => s.heap.get? l = some { cls := .type "tuple", dict := dd, data := .seq items n, slots := sl } ∧
      R (.ok (.ret (Value.ref l))) s) :=
  .of_wp fun prog w A R s h => by
    obtain ⟨hp, g, d, tk, os⟩ := s
    obtain ⟨hl, h⟩ := h
    have f1 := AutoSeq1.idx_int
    have c0 : (decide ((1 : Int) < -(2 ^ 63)) || decide ((1 : Int) ≥ 2 ^ 63)) = false := by decide
    have c1 : (items.isEmpty || (1 : Int) == 1) = true := by simp
    wp_walk using wpAny_loadPart' hl
    repeat (first
      | (refine wpAny_ite_false (decide_eq_false (by rw [c0]; exact Bool.false_ne_true)) ?_; wp_walk using wpAny_loadPart' hl)
      | (refine wpAny_ite_true (decide_eq_true c1) ?_; wp_walk using wpAny_loadPart' hl))
    exact ⟨_, rfl, h⟩
def rRep1 (K : PySem.W.Frag) : R2 := fun x y H Q => ∃ l xs, x = .ref l ∧ y = .int 1 ∧ SqT K H l xs ∧ Q (.ref l) H
theorem op_rep1 {X : Cx} : OpR X (binaryOp .Mult) (rRep1 X.K) := by
  intro pins s σ H x y v u Q I rx ry h
  obtain ⟨l, xs, rfl, rfl, hT, q⟩ := h
  cases rx
  obtain ⟨t, rfl⟩ := ry
  obtain ⟨its, r, ⟨⟨cls, dd, data, sl⟩, ho, hc, n, hd⟩, hs⟩ := I.tuple hT
  simp only at hc hd
  subst hc hd
  refine wpAny_binaryOp_repeat_ref (T := "tuple") (U := "int") (by decide) ⟨_, ho, rfl⟩ (fun s' => typeIs_int s' 1 t) noFill_tuple_mul F.fills_int_mul F.slot_int_rmul repeat_tuple F.slot_int_index.lookup
    (call_meets F.slot_int_rmul (typeIs_int s 1 t) F.entry_int_rmul (F.args_int_rmul_2 _ _) (int_rmul_tuple 1 t l its.toArray n dd sl)
      ⟨ho, rfl, ⟨_, ho, rfl⟩, call_meets F.slot_tuple_mul ⟨_, ho, rfl⟩ F.entry_tuple_mul (F.args_tuple_mul_2 _ _) (tuple_mul1 l its.toArray n dd sl t) ⟨ho, ?_⟩⟩)
  exact ⟨.ref l, H, I, rfl, q⟩
end L2
namespace Fc
open PySem PySem.Spec PyProof.Rows L2
open Evl (Ex)
section
variable {X : Cx} {A : As} {a b : Expr} {pos : Pos}
/-- (d,) * k -/
theorem w_rep {d : PD} {k : Nat} (ha : WD X A a (.tuple [d])) (hb : WD X A b (.int (k : Int))) (h1 : 1 ≤ k) (h2 : k ≤ 1000) : WD X A (.BinOp a .Mult b pos) (.tuple (List.replicate k d)) := by
  by_cases hk : k = 1
  · subst hk
    refine w_op op_rep1 ha hb ?_
    rintro _ _ x y G H rfl rfl dx dy s Q q
    cases dy
    have dx' := dx
    cases dx with
    | @tup p us _ h1 h2 => exact ⟨p, us, rfl, rfl, SqT.of (s _ _ h1), q _ _ G H rfl (Nx.refl s) dx'⟩
  · refine w_op op_repT ha hb ?_
    rintro _ _ x y G H rfl rfl dx dy s Q q
    cases dy
    cases dx with
    | @tup p us _ h1 h2 =>
      have hne : us ≠ [] := fun z => by
        have := h2.length
        rw [z] at this
        cases this
      have hl : us.length = 1 := h2.length
      refine ⟨p, (k : Int), us, rfl, rfl, SqT.of (s _ _ h1), hne, by omega, by omega, by omega, fun l hl => ?_⟩
      have e : (List.replicate (k : Int).toNat [d]).flatten = List.replicate k d := by
        rw [Int.toNat_natCast]
        have : ∀ m : Nat, (List.replicate m [d]).flatten = List.replicate m d := by
          intro m
          induction m with
          | zero => rfl
          | succ m ih => rw [List.replicate_succ, List.replicate_succ, List.flatten_cons, ih]; rfl
        exact this k
      refine q _ _ _ _ rfl (Nx.new s hl) (Dd.tup upd_same ?_)
      have := (h2.rep (k : Int).toNat).up (Ex.new (o := .tup (List.replicate (k : Int).toNat us).flatten) (free_of s hl))
      rw [e] at this
      exact this
end
/-! ### try -/
section
variable {X : Cx} {A N B' : As} {C : Addr} {nm : Str} {R S : Sl → Prop} {G0 H0 : Hp} {ρ : List Sl} {M : Mx} {body rest : List Stmt} {h₀ : ExceptHandler} {hs : List ExceptHandler} {pos pos' p2 np : Pos} {x n : Str} {e : Expr}
theorem ss_tryOk (hb : Ss X.nox G0 H0 A body B' R) (k : Ss X G0 H0 B' rest N R) : Ss X G0 H0 A (.Try body (h₀ :: hs) [] [] pos :: rest) N R :=
  PSs.wk (pss_cons (ps_try_thru0 hb) k) fun D σ H ⟨G, s, as, q1, q2⟩ => ⟨G, s, as, fun σ' G' H' e' s' as' => ⟨G', s', as', fun σ'' G'' H'' e'' => q1 σ'' G'' H'' (e'.trans e''), q2⟩, q2⟩
theorem ss_tryErr (i : Nat) (te : Addr → Value → Option Addr → TE) (Bd : Bad X.prog X.w X.K X.mg X.base C) (hst : X.stack = X.env :: X.outer) (hf : X.env.frame = some X.env.locals) (hN : X.N.Nodup) (hi : X.N[i]? = some n) (hln : X.env.kindOf n = some .local) (hil : i < ρ.length) (hc : Names X x (.ref C))
    (hb : ∀ (W : WX) (pn : List (Addr × Obj)) (xe : Value → Shared → Prop), Takes (X.tr pn xe) W → Bz (X.tr pn xe) (aT G0 H0 ρ M) C nm W body)
    (hsu : ∀ (a : Addr) (oe : Obj) (cls : Value) (d : Option Addr) (pn : List (Addr × Obj)), Zc cls d oe → (∃ vs, oe.data = .fields vs) → PE (X.suite a ((a, oe) :: pn)) e (te a cls d))
    (hte : ∀ (a d : Addr) (σ : L2.St) (G H : Hp) (Q : VK), Ex G H → σ[i]? = some (some (.ref a)) → isErr H d nm → (∀ s v G' H', S s → Nx G H G' H' → SlV G' v s → Q v H') → te a (.ref C) (some d) σ H Q)
    (k : ∀ s, S s → R s) : Ss X G0 H0 (aT G0 H0 ρ M) (.Try body [.ExceptHandler (some (.Name x np)) (some n) [.Return (some e) p2] pos'] [] [] pos :: rest) N R := by
  refine PSs.wk (pss_cons (ps_try_as (i := i) (tb := fun W => fun _ σ H => tBz (aT G0 H0 ρ M) C nm W σ H) (ts := fun a cls d => tRet (te a cls d)) (Wout := fun _ _ _ _ => False) hst hf hN hi hln hc takes0 (fun W pn xe tk _ => hb W pn xe tk) (fun a oe cls d pn hz hv => PSs.wk (pss_cons (ps_ret (hsu a oe cls d pn hz hv)) (pss_never (sts := []))) fun _ _ _ z => z)) (pss_never (sts := rest))) ?_
  rintro D σ H ⟨G, s, as, q1, q2⟩
  refine ⟨G, s, as, fun d G' H' n' hd => ⟨true, Bd.te, fun _ a ha => ?_, fun z => by cases z⟩⟩
  have hl : i < σ.length := by rw [← as.2.1.length]; exact hil
  exact hte a d _ G' H' _ n'.s (List.getElem?_set_self hl) hd fun t v G'' H'' hs nn dv => q2 t v G'' H'' (k t hs) (as.1.trans (n'.trans nn)) dv
end
/-! ### _law_told -/
def FTold (ss : List Sl) (S : Sl → Prop) : Prop := ∃ L Sc Av i, OkL L ∧ StS L Sc ∧ StS L Av ∧ isBetween (.int i) 0 (((due L Sc Av).length : Int) - 1) = false ∧ ss = [.da (encL L), .da (encS Sc), .da (encS Av), .da (.int i)] ∧ S = Eq (.da (.list [.str "index"]))
abbrev sTold : Stmt := topS 39
abbrev nTold : List Str := ["_law_listed", "_law_chosen", "_law_avoided", "_law_index", "problem"]
theorem scTold : FnScope nTold ["_law_listed", "_law_chosen", "_law_avoided", "_law_index"] (defScope sTold) := ⟨rfl, rfl, rfl, by decide +kernel, rfl, by decide +kernel, by decide +kernel⟩
/-! ### _law_name -/
def Out (wh : Int) (parts : List PD) (o : XO) : Prop := (wh = 0 ∧ (∃ a b c, parts = [a, b, c] ∧ FCount [.da a, .da b, .da c] o)) ∨ (wh = 1 ∧ (∃ a b c d, parts = [a, b, c, d] ∧ FNth [.da a, .da b, .da c, .da d] o)) ∨ (wh = 2 ∧ (∃ a b c d, parts = [a, b, c, d] ∧ FIdx [.da a, .da b, .da c, .da d] o))
def nameOf : XO → Str
  | .error nm => nm
  | .ok _ => ""
def FName (ss : List Sl) (S : Sl → Prop) : Prop := ∃ wh parts o, Out wh parts o ∧ ss = [.da (.int wh), .da (.list parts)] ∧ S = Eq (.da (.str (nameOf o)))
abbrev sName : Stmt := topS 40
abbrev nName : List Str := ["_law_which", "_law_parts", "problem"]
theorem scName : FnScope nName ["_law_which", "_law_parts"] (defScope sName) := ⟨rfl, rfl, rfl, by decide +kernel, rfl, by decide +kernel, by decide +kernel⟩
section
variable {P : Program} {w : World} {K : PySem.W.Frag} {mg : Str → Option Value} {base : Heap} {f C : Addr} {fd : FuncData} {k : Nat}
theorem d_told (T : Txt K mg) (Bd : Bad P w K mg base C) (D1 : Def P w K mg base (L2.CX P w) 7 "nth_case" ["listed", "chosen", "avoided", "index"] (spX C FNth)) (Fn : Fun K "_law_told" "_law_told" sTold f fd) (hm : mg "_law_told" = some (.ref f)) (hb : Binds K fd ["_law_listed", "_law_chosen", "_law_avoided", "_law_index"] []) : Def P w K mg base CX0 8 "_law_told" ["_law_listed", "_law_chosen", "_law_avoided", "_law_index"] (spF FTold) := by
  refine def_of Fn hm hb scTold (by rintro _ _ ⟨L, S, A, i, _, _, _, _, rfl, _⟩; rfl) (fun cdv A outer s H E hr => ?_)
  rintro _ _ ⟨L, S, Av, i, hL, hS, hA, hi, rfl, rfl⟩ G0 H0
  refine ss_tryErr (S := Eq (.da (.list [.str "index"]))) (nm := "index") 4 (fun a cls d => tLst (tCons (tXf a cls d C "name" (tVar 4)) tNil)) Bd rfl rfl scTold.nd rfl rfl (by show 4 < 5; decide) ⟨rfl, by decide, .inl Bd.g⟩ (fun W pn xe tk => ?_) (fun a oe cls d pn hz hv => ?_) ?_ (fun s h => h)
  · exact bz_callR D1 hr tk (ws_cons (w_var 0) (ws_cons (w_var 1) (ws_cons (w_var 2) (ws_one (w_var 3))))) (.inr ⟨L, S, Av, _, hL, hS, hA, rfl, .inl ⟨hi, rfl⟩⟩)
  · exact pe_lst (pa_cons (pe_xf Bd.X Bd.no hz hv (pv 4)) pa_nil)
  · intro a d σ G H Q ex hσ hd q
    refine ⟨_, hσ, rfl, rfl, d, _, .str "index", rfl, hd, by simp [List.lookup], by show 1 ≤ sizeLine; rw [sizeLine_eq]; decide, fun p hp => ?_⟩
    exact q _ _ _ _ rfl (Nx.new ex hp) (Dd.lst upd_same (DdAll.one (Dd.str _)))
theorem d_name (T : Txt K mg) (Bd : Bad P w K mg base C) (D0 : Def P w K mg base (L2.CX P w) 7 "count_cases" ["listed", "chosen", "avoided"] (spX C FCount)) (D1 : Def P w K mg base (L2.CX P w) 7 "nth_case" ["listed", "chosen", "avoided", "index"] (spX C FNth)) (D2 : Def P w K mg base (L2.CX P w) 7 "index_of_case" ["listed", "chosen", "avoided", "case"] (spX C FIdx))
    (Fn : Fun K "_law_name" "_law_name" sName f fd) (hm : mg "_law_name" = some (.ref f)) (hb : Binds K fd ["_law_which", "_law_parts"] []) : Def P w K mg base CX0 8 "_law_name" ["_law_which", "_law_parts"] (spF FName) := by
  refine def_of Fn hm hb scName (by rintro _ _ ⟨wh, parts, o, _, rfl, _⟩; rfl) (fun cdv A outer s H E hr => ?_)
  rintro _ _ ⟨wh, parts, o, ho, rfl, rfl⟩ G0 H0
  cases o with
  | error nm =>
    refine ss_tryErr (S := Eq (.da (.str nm))) (nm := nm) 2 (fun a cls d => tXf a cls d C "name" (tVar 2)) Bd rfl rfl scName.nd rfl rfl (by show 2 < 3; decide) ⟨rfl, by decide, .inl Bd.g⟩ (fun W pn xe tk => ?_) (fun a oe cls d pn hz hv => ?_) ?_ (fun s h => h)
    · rcases ho with ⟨rfl, a, b, c, rfl, ho⟩ | ⟨rfl, a, b, c, d, rfl, ho⟩ | ⟨rfl, a, b, c, d, rfl, ho⟩
      · refine bz_ifT ((t_cmp cmp_eqI (w_var 0) w_int).to rfl) (bz_callE D0 hr tk (ws_cons (w_ix (w_var 1) w_int) (ws_cons (w_ix (w_var 1) w_int) (ws_one (w_ix (w_var 1) w_int)))) ho)
      · refine bz_ifF ((t_cmp cmp_eqI (w_var 0) w_int).to rfl) (bz_ifT ((t_cmp cmp_eqI (w_var 0) w_int).to rfl) (bz_callE D1 hr tk (ws_cons (w_ix (w_var 1) w_int) (ws_cons (w_ix (w_var 1) w_int) (ws_cons (w_ix (w_var 1) w_int) (ws_one (w_ix (w_var 1) w_int))))) ho))
      · refine bz_ifF ((t_cmp cmp_eqI (w_var 0) w_int).to rfl) (bz_ifF ((t_cmp cmp_eqI (w_var 0) w_int).to rfl) (bz_callE D2 hr tk (ws_cons (w_ix (w_var 1) w_int) (ws_cons (w_ix (w_var 1) w_int) (ws_cons (w_ix (w_var 1) w_int) (ws_one (w_ix (w_var 1) w_int))))) ho))
    · exact pe_xf Bd.X Bd.no hz hv (pv 2)
    · intro a d σ G H Q ex hσ hd q
      exact ⟨_, hσ, rfl, rfl, d, _, _, rfl, hd, by simp [List.lookup], q _ _ G H rfl (Nx.refl ex) (Dd.str nm)⟩
  | ok v =>
    refine ss_tryOk (B' := aT G0 H0 [.da (.int wh), .da (.list parts), .no] M0) ?_ (ss_ret w_str ?_)
    · rcases ho with ⟨rfl, a, b, c, rfl, ho⟩ | ⟨rfl, a, b, c, d, rfl, ho⟩ | ⟨rfl, a, b, c, d, rfl, ho⟩
      · refine ss_ifT ((t_cmp cmp_eqI (w_var 0) w_int).to rfl) (ss_expr (w_callG D0.ok hr passL (ws_cons (w_ix (f := a) (w_var 1) w_int) (ws_cons (w_ix (f := b) (w_var 1) w_int) (ws_one (w_ix (f := c) (w_var 1) w_int)))) (by rintro _ rfl; exact ho)) ss_nil) ss_nil
      · refine ss_ifF ((t_cmp cmp_eqI (w_var 0) w_int).to rfl) (ss_ifT ((t_cmp cmp_eqI (w_var 0) w_int).to rfl) (ss_expr (w_callG D1.ok hr passL (ws_cons (w_ix (f := a) (w_var 1) w_int) (ws_cons (w_ix (f := b) (w_var 1) w_int) (ws_cons (w_ix (f := c) (w_var 1) w_int) (ws_one (w_ix (f := d) (w_var 1) w_int))))) (by rintro _ rfl; exact ho)) ss_nil) ss_nil) ss_nil
      · refine ss_ifF ((t_cmp cmp_eqI (w_var 0) w_int).to rfl) (ss_ifF ((t_cmp cmp_eqI (w_var 0) w_int).to rfl) (ss_expr (w_callG D2.ok hr passL (ws_cons (w_ix (f := a) (w_var 1) w_int) (ws_cons (w_ix (f := b) (w_var 1) w_int) (ws_cons (w_ix (f := c) (w_var 1) w_int) (ws_one (w_ix (f := d) (w_var 1) w_int))))) (by rintro _ rfl; exact ho)) ss_nil) ss_nil) ss_nil
    · rintro _ rfl
      rfl
end
end Fc
/-! FcU: plain facts. -/
namespace Fc
open PySem PySem.Spec PyProof.Rows L2
open Evl (Ex)
/-! ### sets -/
theorem btw_neg (x : Int) : isBetween (.int (-1)) 0 x = false := by simp [isBetween]
theorem sub_len : ∀ {S : List Nat} {n lo : Nat}, S.Pairwise (· < ·) → (∀ k ∈ S, lo ≤ k ∧ k < n) → S.length ≤ n - lo
  | [], _, _, _, _ => Nat.zero_le _
  | a :: S, n, lo, hp, hb => by
    rw [List.pairwise_cons] at hp
    have h1 := hb a List.mem_cons_self
    have := sub_len (n := n) (lo := a + 1) hp.2 fun k hk => ⟨hp.1 k hk, (hb k (List.mem_cons_of_mem _ hk)).2⟩
    rw [List.length_cons]
    omega
theorem SubS.len {n : Nat} {S : List Nat} (h : SubS n S) : S.length ≤ n := by
  have := sub_len (n := n) (lo := 0) h.1 fun k hk => ⟨Nat.zero_le _, h.2 k hk⟩
  omega
theorem set_f1 {n : Nat} {d : PD} (h : isTup d = false) : isSetD n d = false := by
  unfold isSetD
  rw [h]
  rfl
theorem set_f2 {n : Nat} {d e : PD} (h : e ∈ its d) (hb : isBetween e 0 ((n : Int) - 1) = false) : isSetD n d = false := by
  unfold isSetD
  have : ((its d).all fun e => isBetween e 0 ((n : Int) - 1)) = false := by
    rw [List.all_eq_false]
    exact ⟨e, h, by rw [hb]; decide⟩
  rw [this, if_pos (by simp)]
theorem set_f3 {n : Nat} {d : PD} {i : Nat} (hi : i + 1 < (its d).length) (h : ¬ intD (it d i) < intD (it d (i + 1))) : isSetD n d = false := by
  unfold isSetD
  split
  · rfl
  · rw [List.all_eq_false]
    exact ⟨i, List.mem_range.mpr (by omega), by rw [decide_eq_false h]; decide⟩
theorem set_ok {n : Nat} {S : List Nat} (h : SubS n S) : isSetD n (encS S) = true := by
  have hat : ∀ i (hi : i < S.length), it (encS S) i = natD S[i] := by
    intro i hi
    show (S.map natD).getD i .none = _
    exact getD_at (by rw [List.getElem?_map, List.getElem?_eq_getElem hi]; rfl)
  unfold isSetD
  have h1 : ((its (encS S)).all fun e => isBetween e 0 ((n : Int) - 1)) = true := by
    rw [List.all_eq_true]
    intro e he
    obtain ⟨k, hk, rfl⟩ := List.mem_map.mp (show e ∈ S.map natD from he)
    have := h.2 k hk
    exact between_t (by omega) (by omega)
  rw [h1, if_neg (by simp [show isTup (encS S) = true from rfl]), List.all_eq_true]
  intro i hi
  have hi' := List.mem_range.mp hi
  rw [its_encS] at hi'
  refine decide_eq_true ?_
  rw [hat i (by omega), hat (i + 1) (by omega)]
  have := List.pairwise_iff_getElem.mp h.1 i (i + 1) (by omega) (by omega) (by omega)
  show ((S[i] : Nat) : Int) < ((S[i + 1] : Nat) : Int)
  omega
theorem sts_of {L : Li} {S : List Nat} (hL : OkL L) (h : SubS L.rules.length S) : StS L S := ⟨⟨by have := h.len; have := hL.r7; omega, h.2⟩, set_ok h⟩
def bs (n : Nat) (S : List Nat) : List PD := [.none, .list (S.map natD), .tuple (S.map natD ++ [natD n]), .tuple [.int (-1)], .tuple [.bool true], .tuple [.int 0, .int 0], .tuple [.int 1, .int 0], .tuple [.str "0"], .int 0]
theorem bs_bad {n : Nat} {S : List Nat} (hS : S.length ≤ 900) : ∀ d ∈ bs n S, isSetD n d = false ∧ (its d).length ≤ 1000 := by
  intro d hd
  simp only [bs, List.mem_cons, List.not_mem_nil, or_false] at hd
  rcases hd with rfl | rfl | rfl | rfl | rfl | rfl | rfl | rfl | rfl
  · exact ⟨set_f1 rfl, by decide⟩
  · exact ⟨set_f1 rfl, by show (S.map natD).length ≤ 1000; rw [List.length_map]; omega⟩
  · refine ⟨set_f2 (e := natD n) (by show natD n ∈ S.map natD ++ [natD n]; simp) ?_, by show (S.map natD ++ [natD n]).length ≤ 1000; rw [List.length_append, List.length_map]; simp; omega⟩
    show (decide ((0 : Int) ≤ n) && decide ((n : Int) ≤ (n : Int) - 1)) = false
    rw [decide_eq_false (p := (n : Int) ≤ (n : Int) - 1) (by omega)]
    simp
  · exact ⟨set_f2 (e := .int (-1)) (by show _ ∈ [PyData.int (-1)]; simp) (btw_neg _), by show 1 ≤ 1000; decide⟩
  · exact ⟨set_f2 (e := .bool true) (by show _ ∈ [PyData.bool true]; simp) rfl, by show 1 ≤ 1000; decide⟩
  · exact ⟨set_f3 (i := 0) (by show 1 < 2; decide) (by show ¬ (0 : Int) < 0; decide), by show 2 ≤ 1000; decide⟩
  · exact ⟨set_f3 (i := 0) (by show 1 < 2; decide) (by show ¬ (1 : Int) < 0; decide), by show 2 ≤ 1000; decide⟩
  · exact ⟨set_f2 (e := .str "0") (by show _ ∈ [PyData.str "0"]; simp) rfl, by show 1 ≤ 1000; decide⟩
  · exact ⟨set_f1 rfl, by decide⟩
/-! ### lists -/
def bl (L : Li) : List PD := [.none, .list (its (encL L)), .tuple [.tuple (L.ws.map .int), .tuple (L.rules.map encR)], .tuple [.tuple (L.ws.map .int), .tuple (L.rules.map encR), .int 6], .tuple [.tuple [], .tuple [], .int 0]]
theorem bl_bad (L : Li) : ∀ d ∈ bl L, isListD d = false := by
  intro d hd
  simp only [bl, List.mem_cons, List.not_mem_nil, or_false] at hd
  rcases hd with rfl | rfl | rfl | rfl | rfl
  · rfl
  · rfl
  · rfl
  · unfold isListD
    split
    · rfl
    · rw [if_pos]
      show (_ || (_ || !isBetween (.int 6) 0 5)) = true
      simp [isBetween]
  · rfl
/-! ### indexes -/
def bi (n : Nat) : List PD := [.int (-1), natD n, .bool true, .bool false, .none, .str "0"]
theorem bi_bad (n : Nat) : ∀ d ∈ bi n, isBetween d 0 ((n : Int) - 1) = false := by
  intro d hd
  simp only [bi, List.mem_cons, List.not_mem_nil, or_false] at hd
  rcases hd with rfl | rfl | rfl | rfl | rfl | rfl
  · exact btw_neg _
  · show (decide ((0 : Int) ≤ n) && decide ((n : Int) ≤ (n : Int) - 1)) = false
    rw [decide_eq_false (p := (n : Int) ≤ (n : Int) - 1) (by omega)]
    simp
  · rfl
  · rfl
  · rfl
  · rfl
/-! ### cases -/
def Bnd (c ws : List Int) : Prop := c.length = ws.length ∧ ∀ (i : Nat) v w, c[i]? = some v → ws[i]? = some w → 0 ≤ v ∧ v < w
theorem bnd_step {c ws : List Int} {v w : Int} (h : Bnd c ws) (h0 : 0 ≤ v) (h1 : v < w) : Bnd (c ++ [v]) (ws ++ [w]) := by
  refine ⟨by rw [List.length_append, List.length_append, h.1]; rfl, fun i a b ha hb => ?_⟩
  by_cases hi : i < c.length
  · rw [List.getElem?_append_left hi] at ha
    rw [List.getElem?_append_left (by rw [← h.1]; exact hi)] at hb
    exact h.2 i a b ha hb
  · rw [List.getElem?_append_right (by omega)] at ha
    rw [List.getElem?_append_right (by rw [← h.1]; omega), ← h.1] at hb
    have hz : i - c.length = 0 := by
      have := (List.getElem?_eq_some_iff.mp ha).1
      simp at this
      omega
    rw [hz] at ha hb
    simp at ha hb
    rw [← ha, ← hb]
    exact ⟨h0, h1⟩
theorem mem_step {l : List (List Int)} {w : Int} {c : List Int} (h : c ∈ stepM l w) : ∃ b ∈ l, ∃ v : Int, 0 ≤ v ∧ v < w ∧ c = b ++ [v] := by
  unfold stepM at h
  obtain ⟨b, hb, hm⟩ := List.mem_flatMap.mp h
  obtain ⟨v, hv, rfl⟩ := List.mem_map.mp hm
  have := List.mem_range.mp hv
  exact ⟨b, hb, (v : Int), by omega, by omega, rfl⟩
theorem casesM_bnd {ws c : List Int} (h : c ∈ casesM ws) : Bnd c ws := by
  have key : ∀ (ws pre : List Int) (found : List (List Int)), (∀ c ∈ found, Bnd c pre) → ∀ c ∈ ws.foldl stepM found, Bnd c (pre ++ ws) := by
    intro ws
    induction ws with
    | nil => intro pre found hf c hc; rw [List.append_nil]; exact hf c hc
    | cons w ws ih =>
      intro pre found hf c hc
      have := ih (pre ++ [w]) (stepM found w) (fun c hc => by
        obtain ⟨b, hb, v, h0, h1, rfl⟩ := mem_step hc
        exact bnd_step (hf b hb) h0 h1) c hc
      rwa [List.append_assoc] at this
  have := key ws [] [[]] (by intro c hc; rw [List.mem_singleton.mp hc]; exact ⟨rfl, fun i v w h => by simp at h⟩) c h
  simpa using this
theorem nodup_step {l : List (List Int)} {w : Int} {n : Nat} (hl : ∀ c ∈ l, c.length = n) (h : l.Nodup) : (stepM l w).Nodup := by
  unfold stepM
  induction l with
  | nil => simp
  | cons a l ih =>
    rw [List.nodup_cons] at h
    rw [List.flatMap_cons]
    refine List.nodup_append.mpr ⟨?_, ih (fun c hc => hl c (List.mem_cons_of_mem _ hc)) h.2, ?_⟩
    · refine List.Pairwise.map _ ?_ List.nodup_range
      intro x y hxy z
      have := (List.append_inj z rfl).2
      simp at this
      exact hxy (by omega)
    · intro x hx y hy z
      subst z
      obtain ⟨v, _, rfl⟩ := List.mem_map.mp hx
      obtain ⟨b, hb, hm⟩ := List.mem_flatMap.mp hy
      obtain ⟨u, _, e⟩ := List.mem_map.mp hm
      have := (List.append_inj e (by rw [hl b (List.mem_cons_of_mem _ hb), hl a List.mem_cons_self])).1
      subst this
      exact h.1 hb
theorem casesM_nodup (ws : List Int) : (casesM ws).Nodup := by
  have key : ∀ (ws : List Int) (n : Nat) (found : List (List Int)), (∀ c ∈ found, c.length = n) → found.Nodup → (ws.foldl stepM found).Nodup := by
    intro ws
    induction ws with
    | nil => intro n found _ h; exact h
    | cons w ws ih =>
      intro n found hl h
      refine ih (n + 1) _ (fun c hc => ?_) (nodup_step hl h)
      obtain ⟨b, hb, v, _, _, rfl⟩ := mem_step hc
      rw [List.length_append, hl b hb]
      rfl
  exact key ws 0 [[]] (by intro c hc; rw [List.mem_singleton.mp hc]; rfl) (by simp)
theorem casesM_ne {L : Li} (h : OkL L) : casesM L.ws ≠ [] := by
  have key : ∀ (ws : List Int) (found : List (List Int)), (∀ w ∈ ws, 1 ≤ w) → found ≠ [] → ws.foldl stepM found ≠ [] := by
    intro ws
    induction ws with
    | nil => intro found _ h; exact h
    | cons w ws ih =>
      intro found hw h
      refine ih _ (fun w hw' => hw w (List.mem_cons_of_mem _ hw')) fun z => ?_
      have hl := stepM_length found w
      rw [z] at hl
      have h1 : 0 < found.length := List.length_pos_iff.mpr h
      have h2 : 0 < w.toNat := by have := hw w List.mem_cons_self; omega
      have := Nat.mul_pos h1 h2
      simp at hl
      omega
  exact key L.ws [[]] (fun w hw => (h.wv w hw).1) (by simp)
theorem case_ok {ws c : List Int} (h : c ∈ casesM ws) : isCaseD ws (encC c) = true := by
  have hb := casesM_bnd h
  unfold isCaseD
  have e : (its (encC c)).length = ws.length := by show (c.map PyData.int).length = _; rw [List.length_map, hb.1]
  rw [e, if_neg (by simp [show isTup (encC c) = true from rfl]), List.all_eq_true]
  intro p hp
  have hp' := zipIdx_at hp
  have hlt := (List.getElem?_eq_some_iff.mp hp').1
  have hltc : p.2 < c.length := by rw [hb.1]; exact hlt
  have hg : c[p.2]? = some c[p.2] := List.getElem?_eq_getElem hltc
  have e2 : it (encC c) p.2 = .int c[p.2] := by
    show (c.map PyData.int).getD p.2 .none = _
    exact getD_at (by rw [List.getElem?_map, hg]; rfl)
  rw [e2]
  have := hb.2 p.2 _ _ hg hp'
  exact between_t this.1 (by omega)
theorem case_f1 {ws : List Int} {d : PD} (h : isTup d = false) : isCaseD ws d = false := by
  unfold isCaseD
  rw [h]
  rfl
theorem case_f2 {ws : List Int} {d : PD} (h : (its d).length ≠ ws.length) : isCaseD ws d = false := by
  unfold isCaseD
  rw [if_pos]
  rw [decide_eq_false (by omega)]
  simp
theorem case_f3 {ws : List Int} {d : PD} (i : Nat) {w : Int} (hw : ws[i]? = some w) (h : isBetween (it d i) 0 (w - 1) = false) : isCaseD ws d = false := by
  unfold isCaseD
  split
  · rfl
  · rw [List.all_eq_false]
    exact ⟨(w, i), by rw [List.mem_zipIdx_iff_getElem?]; exact hw, by rw [h]; decide⟩
def bc (ws c : List Int) : List PD := [.none, .list (c.map .int), .tuple ((c.map PyData.int).drop 1), .tuple (c.map .int ++ [.int 0]), .tuple (List.replicate c.length (.bool true)), .tuple ((c.map PyData.int).dropLast ++ [.int (ws.getLastD 0)]), .tuple ((c.map PyData.int).dropLast ++ [.int (-1)]), .str ""]
theorem bc_bad {ws c : List Int} (h : c.length = ws.length) (h1 : 1 ≤ ws.length) : ∀ d ∈ bc ws c, isCaseD ws d = false := by
  obtain ⟨wi, wl, hw⟩ : ∃ wi wl, ws = wi ++ [wl] := ⟨ws.dropLast, ws.getLast (by intro z; rw [z] at h1; cases h1), (List.dropLast_concat_getLast _).symm⟩
  have hlast : ws.getLastD 0 = wl := by rw [hw]; simp
  have hat : ws[wi.length]? = some wl := by rw [hw, List.getElem?_append_right (Nat.le_refl _), Nat.sub_self]; rfl
  have hdl : (c.map PyData.int).dropLast.length = wi.length := by
    rw [List.length_dropLast, List.length_map, h, hw, List.length_append]
    simp
  have hit : ∀ e : PD, it (.tuple ((c.map PyData.int).dropLast ++ [e])) wi.length = e := by
    intro e
    show ((c.map PyData.int).dropLast ++ [e]).getD wi.length .none = e
    refine getD_at ?_
    rw [List.getElem?_append_right (by omega), hdl, Nat.sub_self]
    rfl
  intro d hd
  simp only [bc, List.mem_cons, List.not_mem_nil, or_false] at hd
  rcases hd with rfl | rfl | rfl | rfl | rfl | rfl | rfl | rfl
  · exact case_f1 rfl
  · exact case_f1 rfl
  · refine case_f2 ?_
    show ((c.map PyData.int).drop 1).length ≠ _
    rw [List.length_drop, List.length_map]
    omega
  · refine case_f2 ?_
    show (c.map PyData.int ++ [PyData.int 0]).length ≠ _
    rw [List.length_append, List.length_map]
    simp
    omega
  · refine case_f3 wi.length hat ?_
    have : it (.tuple (List.replicate c.length (.bool true))) wi.length = .bool true := by
      show (List.replicate c.length (PyData.bool true)).getD wi.length .none = _
      refine getD_at ?_
      rw [List.getElem?_replicate, if_pos]
      rw [h, hw, List.length_append]
      simp
    rw [this]
    rfl
  · refine case_f3 wi.length hat ?_
    rw [hit, hlast]
    show (decide ((0 : Int) ≤ wl) && decide (wl ≤ wl - 1)) = false
    rw [decide_eq_false (p := wl ≤ wl - 1) (by omega)]
    simp
  · refine case_f3 wi.length hat ?_
    rw [hit]
    exact btw_neg _
  · exact case_f1 rfl
/-! ### slices of short lists -/
theorem cut_tail {xs : List PD} (h : xs.length ≤ 3) (h1 : 1 ≤ xs.length) : cutD xs (some 1) none = xs.drop 1 := by
  match xs, h, h1 with
  | [a], _, _ => rfl
  | [a, b], _, _ => rfl
  | [a, b, c], _, _ => rfl
theorem cut_init {xs : List PD} (h : xs.length ≤ 3) (h1 : 1 ≤ xs.length) : cutD xs none (some (-1)) = xs.dropLast := by
  match xs, h, h1 with
  | [a], _, _ => rfl
  | [a, b], _, _ => rfl
  | [a, b, c], _, _ => rfl
theorem at_last {ws : List Int} (h : ws.length ≤ 3) (h1 : 1 ≤ ws.length) : atI (ws.map PyData.int) (-1) = some (.int (ws.getLastD 0)) := by
  match ws, h, h1 with
  | [a], _, _ => rfl
  | [a, b], _, _ => rfl
  | [a, b, c], _, _ => rfl
/-! ### counting -/
theorem filter_split {α : Type} (f g : α → Bool) : ∀ l : List α, (l.filter fun c => f c && g c).length + (l.filter fun c => f c && !g c).length = (l.filter f).length
  | [] => rfl
  | a :: l => by
    have ih := filter_split f g l
    cases hf : f a <;> cases hg : g a <;> simp [List.filter_cons, hf, hg] <;> omega
theorem mem_sig {L : Li} {c : List Int} {k : Nat} (hk : k < L.rules.length) : decide ((k : Int) ∈ sig L c) = mtch L k c := by
  rw [Bool.eq_iff_iff, decide_eq_true_iff]
  unfold sig
  rw [List.mem_map]
  constructor
  · rintro ⟨j, hj, e⟩
    have : j = k := by omega
    subst this
    exact (List.mem_filter.mp hj).2
  · intro h
    exact ⟨k, List.mem_filter.mpr ⟨List.mem_range.mpr hk, h⟩, rfl⟩
def qS (S A : List Nat) (key : List Int) : Bool := (S.all fun k => decide ((k : Int) ∈ key)) && !(A.any fun k => decide ((k : Int) ∈ key))
theorem qS_sig {L : Li} {S A : List Nat} (hS : OkS L S) (hA : OkS L A) (c : List Int) : qS S A (sig L c) = fits L S A c := by
  have e1 : ∀ S : List Nat, (∀ k ∈ S, k < L.rules.length) → (S.all fun k => decide ((k : Int) ∈ sig L c)) = S.all fun k => mtch L k c := by
    intro S h
    induction S with
    | nil => rfl
    | cons a S ih => rw [List.all_cons, List.all_cons, mem_sig (h a List.mem_cons_self), ih fun k hk => h k (List.mem_cons_of_mem _ hk)]
  have e2 : ∀ S : List Nat, (∀ k ∈ S, k < L.rules.length) → (S.any fun k => decide ((k : Int) ∈ sig L c)) = S.any fun k => mtch L k c := by
    intro S h
    induction S with
    | nil => rfl
    | cons a S ih => rw [List.any_cons, List.any_cons, mem_sig (h a List.mem_cons_self), ih fun k hk => h k (List.mem_cons_of_mem _ hk)]
  unfold qS fits
  rw [e1 S hS.2, e2 A hA.2]
theorem regions_sum {L : Li} {S A : List Nat} (hS : OkS L S) (hA : OkS L A) {ts : Tab} (h : ts.Perm (tabM (sigs L))) : sumT (qS S A) ts = ((due L S A).length : Int) := by
  rw [sumT_perm h, sumT_tab]
  unfold sigs due
  rw [List.filter_map, List.length_map]
  congr 2
  refine List.filter_congr fun c _ => ?_
  exact qS_sig hS hA c
theorem fits_more {L : Li} {S S' A : List Nat} {m : Nat} (h : S'.Perm (S ++ [m])) (c : List Int) : fits L S' A c = (fits L S A c && mtch L m c) := by
  unfold fits
  have : (S'.all fun k => mtch L k c) = ((S.all fun k => mtch L k c) && mtch L m c) := by
    rw [Bool.eq_iff_iff, List.all_eq_true, Bool.and_eq_true, List.all_eq_true]
    constructor
    · intro hh
      exact ⟨fun k hk => hh k (h.mem_iff.mpr (List.mem_append_left _ hk)), hh m (h.mem_iff.mpr (by simp))⟩
    · rintro ⟨h1, h2⟩ k hk
      rcases List.mem_append.mp (h.mem_iff.mp hk) with hk | hk
      · exact h1 k hk
      · rw [List.mem_singleton.mp hk]; exact h2
  rw [this]
  cases S.all fun k => mtch L k c <;> cases mtch L m c <;> cases A.any fun k => mtch L k c <;> rfl
theorem fits_less {L : Li} {S A A' : List Nat} {m : Nat} (h : A'.Perm (A ++ [m])) (c : List Int) : fits L S A' c = (fits L S A c && !mtch L m c) := by
  unfold fits
  have : (A'.any fun k => mtch L k c) = ((A.any fun k => mtch L k c) || mtch L m c) := by
    rw [Bool.eq_iff_iff, List.any_eq_true, Bool.or_eq_true, List.any_eq_true]
    constructor
    · rintro ⟨k, hk, hm⟩
      rcases List.mem_append.mp (h.mem_iff.mp hk) with hk | hk
      · exact .inl ⟨k, hk, hm⟩
      · rw [List.mem_singleton.mp hk] at hm; exact .inr hm
    · rintro (⟨k, hk, hm⟩ | hm)
      · exact ⟨k, h.mem_iff.mpr (List.mem_append_left _ hk), hm⟩
      · exact ⟨m, h.mem_iff.mpr (by simp), hm⟩
  rw [this]
  cases S.all fun k => mtch L k c <;> cases mtch L m c <;> cases A.any fun k => mtch L k c <;> rfl
theorem split_len {L : Li} {S S' A A' : List Nat} {m : Nat} (h1 : S'.Perm (S ++ [m])) (h2 : A'.Perm (A ++ [m])) : (due L S' A).length + (due L S A').length = (due L S A).length := by
  unfold due
  rw [← filter_split (fits L S A) (mtch L m)]
  congr 2
  · exact List.filter_congr fun c _ => fits_more h1 c
  · exact List.filter_congr fun c _ => fits_less h2 c
theorem sub_more {n m : Nat} {S : List Nat} {ns : List Int} (h : SubS n S) (hm : m < n) (hn : m ∉ S) (hp : ns.Perm ((S ++ [m]).map fun (k : Nat) => (k : Int))) (hw : ns.Pairwise (· ≤ ·)) : ∃ S' : List Nat, ns = S'.map (fun (k : Nat) => (k : Int)) ∧ S'.Perm (S ++ [m]) ∧ SubS n S' := by
  obtain ⟨S', h1, h2⟩ := perm_lift (fun (k : Nat) => (k : Int)) hp (S ++ [m]) rfl
  refine ⟨S', h2.symm, h1, ?_, fun k hk => ?_⟩
  · have hnd : S'.Nodup := by
      refine h1.nodup_iff.mpr (List.nodup_append.mpr ⟨?_, by simp, fun a ha b hb => by rw [List.mem_singleton.mp hb]; intro z; subst z; exact hn ha⟩)
      exact List.Pairwise.imp (fun hlt => Nat.ne_of_lt hlt) h.1
    rw [← h2, List.pairwise_map] at hw
    exact (hw.and hnd).imp fun {a b} ⟨h3, h4⟩ => by omega
  · rcases List.mem_append.mp (h1.mem_iff.mp hk) with hk | hk
    · exact h.2 k hk
    · rw [List.mem_singleton.mp hk]; exact hm
end Fc
/-! FcV: what is refused. -/
namespace Fc
open PySem PySem.Spec PyProof.Rows L2
open Evl (Ex)
section
variable {X : Cx} {G0 H0 G1 H1 : Hp} {N A : As} {R : Sl → Prop} {ρ : List Sl} {M : Mx} {rest : List Stmt} {e c : Expr} {pos py p1 : Pos} {x : Str} {p : Addr} {ds : List PD}
/-- name = [e for a in xs if ..], on one line, open -/
theorem ss_setLcQ {elt tg it : Expr} {ifs : List Expr} {scope : Scope} {own : List (Str × Nat)} {cpos : Pos} {g : TG} {L : List PD → Prop} {B : PD → Bool → Prop} {S : PD → Sl → Prop} (i : Nat) (A' : PD → As) (hc : X.calm = true) (hN : X.N.Nodup) (hy : X.N[i]? = some x) (hyl : X.env.scope.names.lookup x = some .local)
    (hsw : swapsWith (.ListComp elt [⟨tg, it, ifs, 0⟩] scope cpos) (some (.Name x py)) pos.line X.env = pure true) (hi : Wi X (aT G0 H0 ρ M) tg it L) (ok : BlkOk X.N X.env.scope scope own)
    (hg : ∀ (s : Shared) (H : Hp) (C : Addr) (cl : List (Str × Addr)) (fp : List Addr), PG (X.blk s H scope (compEnvC scope cl C X.env) fp) tg g)
    (hgt : ∀ d, (∃ l, L l ∧ d ∈ l) → GT g (own.map (·.2)) (aT G0 H0 (wipeS ρ (own.map (·.2))) M) d (A' d))
    (ht : ∀ d, (∃ l, L l ∧ d ∈ l) → ∀ (s : Shared) (H : Hp) (C : Addr) (cl : List (Str × Addr)) (fp : List Addr), PTs (X.blk s H scope (compEnvC scope cl C X.env) fp) ifs (tTt (A' d) (B d)))
    (he : ∀ d, (∃ l, L l ∧ d ∈ l) → B d true → ∀ (s : Shared) (H : Hp) (C : Addr) (cl : List (Str × Addr)) (fp : List Addr), W (X.blk s H scope (compEnvC scope cl C X.env) fp) (A' d) elt (S d))
    (hz : ∀ l, L l → l.length ≤ 100000) (hS : ∀ d s, S d s → ∃ e, s = .da e) (k : ∀ l r, L l → Coll B S l r → Ss X G0 H0 (aT G0 H0 (ρ.set i (.da (.list r))) M) rest N R) (hs : ∀ x, foldedSetIterable it X.env x = pure x := by intro _; rfl) :
    Ss X G0 H0 (aT G0 H0 ρ M) (.Assign [.Name x py] (.ListComp elt [⟨tg, it, ifs, 0⟩] scope cpos) pos :: rest) N R := by
  have ht' : ∀ (s : Shared) (H : Hp) (C : Addr) (cl : List (Str × Addr)) (fp : List Addr), PTs (X.blk s H scope (compEnvC scope cl C X.env) fp) ifs (tLcT A' L B) :=
    fun s H C cl fp => PTs.exi (t := fun d : { d // ∃ l, L l ∧ d ∈ l } => tTt (A' d.1) (B d.1)) fun d => ht d.1 d.2 s H C cl fp
  have he' : ∀ (s : Shared) (H : Hp) (C : Addr) (cl : List (Str × Addr)) (fp : List Addr), PE (X.blk s H scope (compEnvC scope cl C X.env) fp) elt (tLcE A' L B S) :=
    fun s H C cl fp => PE.exi (t := fun d : { d // (∃ l, L l ∧ d ∈ l) ∧ B d true } => tW (A' d.1) (S d.1)) fun d => he d.1 d.2.1 d.2.2 s H C cl fp
  refine PSs.wk (pss_cons (ps_setLc (i := i) hc hN hy hyl hsw hi ok hg ht' he' hs) (PSs.exi (t := fun z : { z : List PD × List PD // L z.1 ∧ Coll B S z.1 z.2 } => tSs G0 H0 (aT G0 H0 (ρ.set i (.da (.list z.1.2))) M) N R) fun z => k z.1.1 z.1.2 z.2.1 z.2.2)) ?_
  rintro D σ H ⟨G, s, as, q1, q2⟩
  show tLc _ _ _ _ _ σ H (fun x H1 => gName i x σ H1 _)
  refine lc_read (aT G0 H0 (wipeS ρ (own.map (·.2))) M) _ hw_aT hgt hz hS s as fun l' res v G' H' hl hcoll n dv => ?_
  exact ⟨⟨(l', res), hl, hcoll⟩, G', n.s, ⟨as.1.trans n, Rel.set (s := .da _) dv i (as.2.1.up n.g), M.m n as.2.2⟩, fun σ'' G'' H'' e'' => q1 σ'' G'' H'' (n.g.trans e''), q2⟩
/-- name = [..], a list that will grow -/
theorem ss_lnewQ {es : List Expr} {l : List Sl} (i : Nat) (h : Ws X (aT G0 H0 ρ M0) es (Eq l)) (hl : l = ds.map .da) (hz : ds.length ≤ 1000) (k : ∀ p, Ss X G0 H0 (aT G0 H0 (ρ.set i (.at (.ref p))) (Ml H0 p ds)) rest N R) (hN : X.N.Nodup) (hi : X.N[i]? = some x := by rfl) (hx : Loc X.env.scope x := by first | exact Or.inl rfl | exact Or.inr rfl)
    (hs : swapsWith (.List es p1) (some (.Name x py)) pos.line X.env = pure false := by rfl) (hf : X.fn x = true ∨ X.env.scope.names.lookup x = some .local := by first | exact .inl rfl | exact .inr rfl | assumption) : Ss X G0 H0 (aT G0 H0 ρ M0) (.Assign [.Name x py] (.List es p1) pos :: rest) N R :=
  PSs.wk (pss_cons (ps_set (i := i) hN hi hx (pe_lst h) hs hf) (PSs.exi (t := fun p => tSs G0 H0 (aT G0 H0 (ρ.set i (.at (.ref p))) (Ml H0 p ds)) N R) fun p => k p)) fun D σ H ⟨G, s, as, q1, q2⟩ => ⟨G, s, as, by
    rintro _ vs G1 H1 rfl n1 dv
    rw [hl] at dv
    have dd := dv.da
    refine ⟨by rw [dd.length]; exact Nat.le_of_lt (small1000 hz), fun p hp => ?_⟩
    exact ⟨p, G1, n1.s.trans (Ex.new hp), ⟨(as.1.trans n1).more (Ex.new hp), Rel.set (s := .at (.ref p)) rfl i (as.2.1.up n1.g), free_of (as.1.trans n1).h hp, free_of n1.s hp, vs, upd_same, dd⟩, fun σ'' G'' H'' e'' => q1 σ'' G'' H'' (n1.g.trans e''), q2⟩⟩
/-- the list grows no more -/
theorem ss_lshut {sts : List Stmt} (i : Nat) (h : ρ[i]? = some (.at (.ref p))) (k : Ss X G1 H1 (aT G0 H0 (ρ.set i (.da (.list ds))) M0) sts N R) : Ss X G1 H1 (aT G0 H0 ρ (Ml H0 p ds)) sts N R := PSs.wk k (by
  rintro D σ H ⟨G, s, ⟨m0, mr, m1, m2, xs, hx, hd⟩, q1, q2⟩
  obtain ⟨v, g1, e1⟩ := Rel.get mr h (fun z => nomatch z)
  have e1' : v = V.ref p := e1
  subst e1'
  have e2 : Ex G (upd G p (.lst xs)) := Ex.new m2
  have m3 := Nx.add m0 m1 m2 hx
  refine ⟨upd G p (.lst xs), m3.s, ⟨m3, ?_, True.intro⟩, fun σ'' G'' H'' e'' => q1 σ'' G'' H'' (e2.trans e''), q2⟩
  have hr := Rel.set (s := .da (.list ds)) (Dd.lst (a := p) upd_same (hd.up e2)) i (mr.up e2)
  have hσ : σ.set i (some (V.ref p)) = σ := by
    apply List.ext_getElem?
    intro j
    by_cases hj : i = j
    · subst hj
      rw [List.getElem?_set_self (List.getElem?_eq_some_iff.mp g1).1, g1]
    · rw [List.getElem?_set_ne hj]
  rw [hσ] at hr
  exact hr)
end
/-! ### rows of refusals -/
inductive Picked : List PD → List PD → Prop
  | nil : Picked [] []
  | cons {xs : List PD} {e : PD} {rs es : List PD} : e ∈ xs → Picked rs es → Picked (.list xs :: rs) (e :: es)
theorem picked_of {B : PD → Bool → Prop} (hB : ∀ d b, B d b → b = true) : ∀ {l r : List PD}, Coll B (fun d s => ∃ xs e, d = .list xs ∧ e ∈ xs ∧ s = .da e) l r → Picked l r
  | _, _, .nil => .nil
  | _, _, .skip h _ => by have := hB _ _ h; cases this
  | _, _, .take _ ⟨xs, e, h1, h2, h3⟩ t => by
    injection h3 with h3
    subst h1 h3
    exact .cons h2 (picked_of hB t)
abbrev Row := Int × List PD × List PD
def encW (r : Row) : PD := .tuple [.int r.1, .list r.2.1, .list r.2.2]
def goodL (L : Li) (S A : List Nat) : List PD := [encL L, encS S, encS A]
def badL (L : Li) (S : List Nat) : List PD := [.list (bl L), .list (bs L.rules.length S), .list (bs L.rules.length S)]
def nm3 (wh : Int) : Str := if wh = 1 then "index" else if wh = 2 then "case" else ""
def nameK (wh : Int) (k : Nat) : Str := match k with
  | 0 => "listed"
  | 1 => "chosen"
  | 2 => "avoided"
  | _ => nm3 wh
def parts1 (good odd : List PD) (k : Nat) : List PD := cutD good none (some (k : Int)) ++ cutD odd (some (k : Int)) (some ((k : Int) + 1)) ++ cutD good (some ((k : Int) + 1)) none
def parts2 (good odd : List PD) (k : Nat) : List PD := cutD good none (some (k : Int)) ++ cutD odd (some (k : Int)) none
structure RowOk (L : Li) (S A : List Nat) (r : Row) : Prop where
  w : r.1 = 0 ∨ r.1 = 1 ∨ r.1 = 2
  ll : r.2.1.length ≤ 1
  wl : r.2.2.length ≤ 1
  rows : ∀ d ∈ badL L S ++ r.2.2, ∃ xs, d = .list xs ∧ xs ≠ [] ∧ xs.length ≤ 1000
  good : ∃ v, Out r.1 (goodL L S A ++ r.2.1) (.ok v)
  bad : ∀ odd, Picked (badL L S ++ r.2.2) odd → odd.length ≤ 4 ∧ ∀ k < 3 + r.2.1.length, Out r.1 (parts1 (goodL L S A ++ r.2.1) odd k) (.error (nameK r.1 k)) ∧ Out r.1 (parts2 (goodL L S A ++ r.2.1) odd k) (.error (nameK r.1 k))
section
variable {L : Li} {S A : List Nat}
theorem badL_rows (hL : OkL L) (hS : SubS L.rules.length S) : ∀ d ∈ badL L S, ∃ xs, d = .list xs ∧ xs ≠ [] ∧ xs.length ≤ 1000 := by
  intro d hd
  simp only [badL, List.mem_cons, List.not_mem_nil, or_false] at hd
  rcases hd with rfl | rfl | rfl
  · exact ⟨_, rfl, fun z => (List.cons_ne_nil _ _ z), by show 5 ≤ 1000; decide⟩
  · exact ⟨_, rfl, fun z => (List.cons_ne_nil _ _ z), by show 9 ≤ 1000; decide⟩
  · exact ⟨_, rfl, fun z => (List.cons_ne_nil _ _ z), by show 9 ≤ 1000; decide⟩
theorem row0 (hL : OkL L) (hS : SubS L.rules.length S) (hA : SubS L.rules.length A) : RowOk L S A (0, [], []) where
  w := .inl rfl
  ll := Nat.zero_le _
  wl := Nat.zero_le _
  rows := fun d hd => badL_rows hL hS d (by simpa using hd)
  good := ⟨_, .inl ⟨rfl, _, _, _, rfl, .inr ⟨L, S, A, hL, sts_of hL hS, sts_of hL hA, rfl, rfl⟩⟩⟩
  bad := by
    intro odd hp
    have h7 := hL.r7
    have hs9 := hS.len
    cases hp with
    | @cons _ o0 _ _ h0 hp =>
    cases hp with
    | @cons _ o1 _ _ h1 hp =>
    cases hp with
    | @cons _ o2 _ _ h2 hp =>
    cases hp
    have b0 := bl_bad L _ h0
    have b1 := bs_bad (by omega) _ h1
    have b2 := bs_bad (by omega) _ h2
    refine ⟨by show 3 ≤ 4; decide, fun k hk => ?_⟩
    have c0 : ∀ b c, FCount [.da o0, .da b, .da c] (.error "listed") := fun b c => .inl ⟨_, _, _, _, rfl, .listed b0, rfl⟩
    have c1 : ∀ c, FCount [.da (encL L), .da o1, .da c] (.error "chosen") := fun c => .inl ⟨_, _, _, _, rfl, .chosen hL b1.2 b1.1, rfl⟩
    have c2 : FCount [.da (encL L), .da (encS S), .da o2] (.error "avoided") := .inl ⟨_, _, _, _, rfl, .avoided hL (sts_of hL hS) b2.2 b2.1, rfl⟩
    match k, hk with
    | 0, _ => exact ⟨.inl ⟨rfl, o0, encS S, encS A, rfl, c0 _ _⟩, .inl ⟨rfl, o0, o1, o2, rfl, c0 _ _⟩⟩
    | 1, _ => exact ⟨.inl ⟨rfl, encL L, o1, encS A, rfl, c1 _⟩, .inl ⟨rfl, encL L, o1, o2, rfl, c1 _⟩⟩
    | 2, _ => exact ⟨.inl ⟨rfl, encL L, encS S, o2, rfl, c2⟩, .inl ⟨rfl, encL L, encS S, o2, rfl, c2⟩⟩
theorem row2 (hL : OkL L) (hS : SubS L.rules.length S) (hA : SubS L.rules.length A) {c : List Int} (hc : c ∈ casesM L.ws) : RowOk L S A (2, [encC c], [.list (bc L.ws c)]) where
  w := .inr (.inr rfl)
  ll := Nat.le_refl _
  wl := Nat.le_refl _
  rows := fun d hd => by
    rcases List.mem_append.mp hd with hd | hd
    · exact badL_rows hL hS d hd
    · rw [List.mem_singleton.mp hd]
      exact ⟨_, rfl, fun z => (List.cons_ne_nil _ _ z), by show 8 ≤ 1000; decide⟩
  good := by
    have hS' := sts_of hL hS
    have hA' := sts_of hL hA
    cases hf : fits L S A c with
    | false => exact ⟨_, .inr (.inr ⟨rfl, _, _, _, _, rfl, .inr ⟨L, S, A, _, hL, hS', hA', rfl, .inr ⟨c, rfl, hc, case_ok hc, .inl ⟨hf, rfl⟩⟩⟩⟩)⟩
    | true => exact ⟨_, .inr (.inr ⟨rfl, _, _, _, _, rfl, .inr ⟨L, S, A, _, hL, hS', hA', rfl, .inr ⟨c, rfl, hc, case_ok hc, .inr ⟨hf, rfl⟩⟩⟩⟩)⟩
  bad := by
    intro odd hp
    have h7 := hL.r7
    have hs9 := hS.len
    cases hp with
    | @cons _ o0 _ _ h0 hp =>
    cases hp with
    | @cons _ o1 _ _ h1 hp =>
    cases hp with
    | @cons _ o2 _ _ h2 hp =>
    cases hp with
    | @cons _ o3 _ _ h3 hp =>
    cases hp
    have b0 := bl_bad L _ h0
    have b1 := bs_bad (by omega) _ h1
    have b2 := bs_bad (by omega) _ h2
    have b3 := bc_bad (casesM_len hc) hL.w1 _ h3
    refine ⟨by show 4 ≤ 4; decide, fun k hk => ?_⟩
    have c0 : ∀ b c d, FIdx [.da o0, .da b, .da c, .da d] (.error "listed") := fun b c d => .inl ⟨_, _, _, _, _, rfl, .listed b0, rfl⟩
    have c1 : ∀ c d, FIdx [.da (encL L), .da o1, .da c, .da d] (.error "chosen") := fun c d => .inl ⟨_, _, _, _, _, rfl, .chosen hL b1.2 b1.1, rfl⟩
    have c2 : ∀ d, FIdx [.da (encL L), .da (encS S), .da o2, .da d] (.error "avoided") := fun d => .inl ⟨_, _, _, _, _, rfl, .avoided hL (sts_of hL hS) b2.2 b2.1, rfl⟩
    have c3 : FIdx [.da (encL L), .da (encS S), .da (encS A), .da o3] (.error "case") := .inr ⟨L, S, A, o3, hL, sts_of hL hS, sts_of hL hA, rfl, .inl ⟨b3, rfl⟩⟩
    match k, hk with
    | 0, _ => exact ⟨.inr (.inr ⟨rfl, o0, encS S, encS A, encC c, rfl, c0 _ _ _⟩), .inr (.inr ⟨rfl, o0, o1, o2, o3, rfl, c0 _ _ _⟩)⟩
    | 1, _ => exact ⟨.inr (.inr ⟨rfl, encL L, o1, encS A, encC c, rfl, c1 _ _⟩), .inr (.inr ⟨rfl, encL L, o1, o2, o3, rfl, c1 _ _⟩)⟩
    | 2, _ => exact ⟨.inr (.inr ⟨rfl, encL L, encS S, o2, encC c, rfl, c2 _⟩), .inr (.inr ⟨rfl, encL L, encS S, o2, o3, rfl, c2 _⟩)⟩
    | 3, _ => exact ⟨.inr (.inr ⟨rfl, encL L, encS S, encS A, o3, rfl, c3⟩), .inr (.inr ⟨rfl, encL L, encS S, encS A, o3, rfl, c3⟩)⟩
theorem row1 (hL : OkL L) (hS : SubS L.rules.length S) (hA : SubS L.rules.length A) (hne : due L S A ≠ []) : RowOk L S A (1, [.int 0], [.list (bi (due L S A).length)]) where
  w := .inr (.inl rfl)
  ll := Nat.le_refl _
  wl := Nat.le_refl _
  rows := fun d hd => by
    rcases List.mem_append.mp hd with hd | hd
    · exact badL_rows hL hS d hd
    · rw [List.mem_singleton.mp hd]
      exact ⟨_, rfl, fun z => (List.cons_ne_nil _ _ z), by show 6 ≤ 1000; decide⟩
  good := by
    obtain ⟨c, l, e⟩ := List.exists_cons_of_ne_nil hne
    exact ⟨_, .inr (.inl ⟨rfl, _, _, _, _, rfl, .inr ⟨L, S, A, _, hL, sts_of hL hS, sts_of hL hA, rfl, .inr ⟨0, c, rfl, by rw [e]; rfl, rfl⟩⟩⟩)⟩
  bad := by
    intro odd hp
    have h7 := hL.r7
    have hs9 := hS.len
    cases hp with
    | @cons _ o0 _ _ h0 hp =>
    cases hp with
    | @cons _ o1 _ _ h1 hp =>
    cases hp with
    | @cons _ o2 _ _ h2 hp =>
    cases hp with
    | @cons _ o3 _ _ h3 hp =>
    cases hp
    have b0 := bl_bad L _ h0
    have b1 := bs_bad (by omega) _ h1
    have b2 := bs_bad (by omega) _ h2
    have b3 := bi_bad _ _ h3
    refine ⟨by show 4 ≤ 4; decide, fun k hk => ?_⟩
    have c0 : ∀ b c d, FNth [.da o0, .da b, .da c, .da d] (.error "listed") := fun b c d => .inl ⟨_, _, _, _, _, rfl, .listed b0, rfl⟩
    have c1 : ∀ c d, FNth [.da (encL L), .da o1, .da c, .da d] (.error "chosen") := fun c d => .inl ⟨_, _, _, _, _, rfl, .chosen hL b1.2 b1.1, rfl⟩
    have c2 : ∀ d, FNth [.da (encL L), .da (encS S), .da o2, .da d] (.error "avoided") := fun d => .inl ⟨_, _, _, _, _, rfl, .avoided hL (sts_of hL hS) b2.2 b2.1, rfl⟩
    have c3 : FNth [.da (encL L), .da (encS S), .da (encS A), .da o3] (.error "index") := .inr ⟨L, S, A, o3, hL, sts_of hL hS, sts_of hL hA, rfl, .inl ⟨b3, rfl⟩⟩
    match k, hk with
    | 0, _ => exact ⟨.inr (.inl ⟨rfl, o0, encS S, encS A, .int 0, rfl, c0 _ _ _⟩), .inr (.inl ⟨rfl, o0, o1, o2, o3, rfl, c0 _ _ _⟩)⟩
    | 1, _ => exact ⟨.inr (.inl ⟨rfl, encL L, o1, encS A, .int 0, rfl, c1 _ _⟩), .inr (.inl ⟨rfl, encL L, o1, o2, o3, rfl, c1 _ _⟩)⟩
    | 2, _ => exact ⟨.inr (.inl ⟨rfl, encL L, encS S, o2, .int 0, rfl, c2 _⟩), .inr (.inl ⟨rfl, encL L, encS S, o2, o3, rfl, c2 _⟩)⟩
    | 3, _ => exact ⟨.inr (.inl ⟨rfl, encL L, encS S, encS A, o3, rfl, c3⟩), .inr (.inl ⟨rfl, encL L, encS S, encS A, o3, rfl, c3⟩)⟩
end
end Fc
/-! FcW: _law_refuses. -/
namespace Fc
open PySem PySem.Spec PyProof.Rows L2
open Evl (Ex)
theorem cut_le (xs : List PD) (a b : Option Int) : (cutD xs a b).length ≤ xs.length := by
  unfold cutD
  rw [List.length_take, List.length_drop]
  omega
def FRef (ss : List Sl) (R : Sl → Prop) : Prop := ∃ L S A c, OkL L ∧ SubS L.rules.length S ∧ SubS L.rules.length A ∧ c ∈ casesM L.ws ∧ ss = [.st, .da (encL L), .da (encS S), .da (encS A), .da (.list ((due L S A).map encC)), .da (encC c)] ∧ R = Eq (.da (.bool true))
abbrev sRef : Stmt := topS 41
abbrev nRef : List Str := ["_law_stream_here", "_law_listed", "_law_chosen", "_law_avoided", "_law_due", "_law_case", "_law_many", "_law_bad_set", "_law_bad", "_law_bad_index", "_law_bad_case", "_law_rows", "_law_which", "_law_last", "_law_wrong", "_law_good", "_law_row", "_law_odd", "_law_names", "_law_k"]
abbrev pRef : List Str := ["_law_stream_here", "_law_listed", "_law_chosen", "_law_avoided", "_law_due", "_law_case"]
theorem scRef : FnScope nRef pRef (defScope sRef) := ⟨rfl, rfl, rfl, by decide +kernel, rfl, by decide +kernel, by decide +kernel⟩
theorem nm3_at {wh : Int} (h : wh = 0 ∨ wh = 1 ∨ wh = 2) : atI [PyData.str "", .str "index", .str "case"] wh = some (.str (nm3 wh)) := by
  rcases h with rfl | rfl | rfl <;> rfl
theorem nameK_at {wh : Int} {k : Nat} (h : k < 4) : atI [PyData.str "listed", .str "chosen", .str "avoided", .str (nm3 wh)] (k : Int) = some (.str (nameK wh k)) := by
  match k, h with
  | 0, _ => rfl
  | 1, _ => rfl
  | 2, _ => rfl
  | 3, _ => rfl
section
variable {P : Program} {w : World} {K : PySem.W.Frag} {mg : Str → Option Value} {base : Heap} {f C : Addr} {fd : FuncData} {k : Nat}
theorem d_ref (T : Txt K mg) (D1 : Def P w K mg base CX0 2 "_law_pick" ["_law_stream_here", "_law_rows"] (spF FPick)) (D2 : Def P w K mg base CX0 8 "_law_name" ["_law_which", "_law_parts"] (spF FName)) (Fn : Fun K "_law_refuses" "_law_refuses" sRef f fd) (hm : mg "_law_refuses" = some (.ref f)) (hb : Binds K fd pRef []) : Def P w K mg base CX0 9 "_law_refuses" pRef (spF FRef) := by
  refine def_of Fn hm hb scRef (by rintro _ _ ⟨L, S, A, c, _, _, _, _, rfl, _⟩; rfl) (fun cdv A outer s H E hr => ?_)
  rintro _ _ ⟨L, S, Av, c, hL, hS, hA, hc, rfl, rfl⟩ G0 H0
  have h7 := hL.r7
  have hsl := hS.len
  have hcl := casesM_len hc
  have hw1 := hL.w1
  have hw3 := hL.w3
  have hr2 := hr.mono (j := 2) (by decide)
  have hN := scRef.nd
  have hcm : (c.map PyData.int).length = L.ws.length := by rw [List.length_map, hcl]
  refine ss_setD (d := natD L.rules.length) 6 ((w_lenT (w_L1 (w_var 1)) T.len).to (by rw [List.length_map]; rfl)) ?_ hN
  refine ss_setD 7 (w_lst (bs L.rules.length S) (ws_cons w_non (ws_cons (w_listOf (w_var (s := .da (encS S)) 2) rfl T.list) (ws_cons (w_catT (xs := S.map natD) (ys := [natD L.rules.length]) (w_var (s := .da (encS S)) 2) (w_tup [natD L.rules.length] (ws_one (w_var 6))) (by rw [List.length_map]; simp <;> omega)) (ws_cons (w_tup [.int (-1)] (ws_one (w_neg w_int))) (ws_cons (w_tup [.bool true] (ws_one w_bl)) (ws_cons (w_tup [.int 0, .int 0] (ws_cons w_int (ws_one w_int))) (ws_cons (w_tup [.int 1, .int 0] (ws_cons w_int (ws_one w_int))) (ws_cons (w_tup [.str "0"] (ws_one w_str)) (ws_one w_int)))))))))) ?_ hN
  refine ss_setD 8 (w_lst (badL L S) (ws_cons (w_lst (bl L) (ws_cons w_non (ws_cons (w_listOf (w_var (s := .da (encL L)) 1) rfl T.list) (ws_cons (w_slT (xs := its (encL L)) (l := none) (u := some 2) (w_var (s := .da (encL L)) 1) wo_none (wo_some w_int)) (ws_cons (w_tup [.tuple (L.ws.map .int), .tuple (L.rules.map encR), .int 6] (ws_cons (w_L0 (w_var 1)) (ws_cons (w_L1 (w_var 1)) (ws_one w_int)))) (ws_one (w_tup [.tuple [], .tuple [], .int 0] (ws_cons (w_tup [] ws_nil) (ws_cons (w_tup [] ws_nil) (ws_one w_int)))))))))) (ws_cons (w_var 7) (ws_one (w_var 7))))) ?_ hN
  refine ss_setD 9 (w_lst (bi (due L S Av).length) (ws_cons (w_neg w_int) (ws_cons ((w_lenL (w_var 4) T.len).to (by rw [List.length_map])) (ws_cons w_bl (ws_cons w_bl (ws_cons w_non (ws_one w_str))))))) ?_ hN
  refine ss_setD 10 (w_lst (bc L.ws c) (ws_cons w_non (ws_cons (w_listOf (w_var (s := .da (encC c)) 5) rfl T.list) (ws_cons ((w_slT (xs := c.map .int) (l := some 1) (u := none) (w_var (s := .da (encC c)) 5) (wo_some w_int) wo_none).to (by rw [cut_tail (by omega) (by omega)])) (ws_cons (w_catT (xs := c.map .int) (ys := [.int 0]) (w_var (s := .da (encC c)) 5) (w_tup [.int 0] (ws_one w_int)) (by simp <;> omega))
    (ws_cons ((w_rep (k := c.length) (w_tup [.bool true] (ws_one w_bl)) ((w_lenT (xs := c.map .int) (w_var (s := .da (encC c)) 5) T.len).to (by rw [List.length_map])) (by omega) (by omega)))
    (ws_cons ((w_catT (xs := (c.map PyData.int).dropLast) (ys := [.int (L.ws.getLastD 0)]) ((w_slT (xs := c.map .int) (l := none) (u := some (-1)) (w_var (s := .da (encC c)) 5) wo_none (wo_some (w_neg w_int))).to (by rw [cut_init (by omega) (by omega)])) (w_tup [.int (L.ws.getLastD 0)] (ws_one (w_ix (w_L0 (w_var 1)) (w_neg w_int) rfl (at_last (by omega) (by omega))))) (by rw [List.length_dropLast]; simp <;> omega)))
    (ws_cons ((w_catT (xs := (c.map PyData.int).dropLast) (ys := [.int (-1)]) ((w_slT (xs := c.map .int) (l := none) (u := some (-1)) (w_var (s := .da (encC c)) 5) wo_none (wo_some (w_neg w_int))).to (by rw [cut_init (by omega) (by omega)])) (w_tup [.int (-1)] (ws_one (w_neg w_int))) (by rw [List.length_dropLast]; simp <;> omega)))
    (ws_one w_str))))))))) ?_ hN
  refine ss_lnewQ (ds := [encW (0, [], []), encW (2, [encC c], [.list (bc L.ws c)])]) 11 (ws_cons (w_tup [.int 0, .list [], .list []] (ws_cons w_int (ws_cons (w_lst [] ws_nil) (ws_one (w_lst [] ws_nil))))) (ws_one (w_tup [.int 2, .list [encC c], .list [.list (bc L.ws c)]] (ws_cons w_int (ws_cons (w_lst [encC c] (ws_one (w_var 5))) (ws_one (w_lst [.list (bc L.ws c)] (ws_one (w_var 10))))))))) rfl (by show 2 ≤ 1000; decide) (fun p => ?_) hN
  -- the rows
  have main : ∀ rs : List Row, (∀ r ∈ rs, RowOk L S Av r) → Ss (cxOf CX0 P w K mg base nRef "_law_refuses" (defScope sRef) f cdv A outer s H E).nox G0 H0
      (aT G0 H0 [.st, .da (encL L), .da (encS S), .da (encS Av), .da (.list ((due L S Av).map encC)), .da (encC c), .da (natD L.rules.length), .da (.list (bs L.rules.length S)), .da (.list (badL L S)), .da (.list (bi (due L S Av).length)), .da (.list (bc L.ws c)), .at (.ref p), .no, .no, .no, .no, .no, .no, .no, .no] (Ml H0 p (rs.map encW))) ((defBody sRef).drop 7) bot (Eq (.da (.bool true))) := by
    intro rs hrs
    refine ss_lshut 11 rfl ?_
    refine ss_for (vs := [12, 13, 14]) (fun l i => aT G0 H0 [.st, .da (encL L), .da (encS S), .da (encS Av), .no, .no, .no, .no, .da (.list (badL L S)), .no, .no, .da (.list (rs.map encW)), .no, .no, .no, .no, .no, .no, .no, .no] M0)
      (fun l i => aT G0 H0 [.st, .da (encL L), .da (encS S), .da (encS Av), .no, .no, .no, .no, .da (.list (badL L S)), .no, .no, .da (.list (rs.map encW)), .da (it (l.getD i .none) 0), .da (it (l.getD i .none) 1), .da (it (l.getD i .none) 2), .no, .no, .no, .no, .no] M0)
      PassesOwn.never rfl (wi_lst (w_var 11)) (pg_tup rfl (pgs_cons (pg_name (i := 12) hN rfl (Or.inl rfl)) (pgs_cons (pg_name (i := 13) hN rfl (Or.inl rfl)) (pgs_cons (pg_name (i := 14) hN rfl (Or.inl rfl)) pgs_nil)))) ?_ ?_ ?_ ?_
    · rintro _ rfl
      exact aT_wk ⟨.inr rfl, .inr rfl, .inr rfl, .inr rfl, .inl rfl, .inl rfl, .inl rfl, .inl rfl, .inr rfl, .inl rfl, .inl rfl, .inr rfl, .inr rfl, .inr rfl, .inr rfl, .inr rfl, .inr rfl, .inr rfl, .inr rfl, .inr rfl, trivial⟩
    · rintro _ i d rfl hd
      rw [getD_at hd]
      rw [List.getElem?_map] at hd
      obtain ⟨r, _, rfl⟩ := Option.map_eq_some_iff.mp hd
      exact gt_three 12 13 14 (by decide) (by decide) (by decide)
    · rintro _ i d rfl hd
      rw [getD_at hd]
      rw [List.getElem?_map] at hd
      obtain ⟨r, hr', rfl⟩ := Option.map_eq_some_iff.mp hd
      obtain ⟨hw, hll, hwl, hrows, ⟨gv, hgood⟩, hbad⟩ := hrs r (List.mem_of_getElem? hr')
      obtain ⟨wh, last, wrong⟩ := r
      simp only at hw hll hwl hrows hgood hbad
      refine (?_ : Ss (cxOf CX0 P w K mg base nRef "_law_refuses" (defScope sRef) f cdv A outer s H E).nox G0 H0 (aT G0 H0 [.st, .da (encL L), .da (encS S), .da (encS Av), .no, .no, .no, .no, .da (.list (badL L S)), .no, .no, .da (.list (rs.map encW)), .da (.int wh), .da (.list last), .da (.list wrong), .no, .no, .no, .no, .no] M0) _ _ _)
      refine ss_setD (d := .list (goodL L S Av ++ last)) 15 (w_catL (w_lst (goodL L S Av) (ws_cons (w_var 1) (ws_cons (w_var 2) (ws_one (w_var 3))))) (w_var 13) (by show 3 + last.length ≤ _; omega)) ?_ hN
      refine ss_setLcQ (own := [("_law_row", 16)]) (L := Eq (badL L S ++ wrong)) (B := fun _ => Eq true) (S := fun d s => ∃ xs e, d = .list xs ∧ e ∈ xs ∧ s = .da e) 17 (fun d => aT G0 H0 [.st, .da (encL L), .da (encS S), .da (encS Av), .no, .no, .no, .no, .da (.list (badL L S)), .no, .no, .da (.list (rs.map encW)), .da (.int wh), .da (.list last), .da (.list wrong), .da (.list (goodL L S Av ++ last)), .da d, .no, .no, .no] M0)
        rfl hN rfl rfl (sw_true rfl rfl rfl (by decide +kernel)) (wi_lst (w_catL (w_var 8) (w_var 14) (by show 3 + wrong.length ≤ _; omega))) (blkOk_by (own := [("_law_row", 16)]) (N := nRef) (sc := defScope sRef) (by decide +kernel)) (fun _ _ _ _ _ => pg_name (i := 16) hN rfl (Or.inl rfl)) (fun d _ => gt_name 16) (fun d _ s H C cl fp => pts_T0) ?_ ?_ ?_ ?_
      · rintro d ⟨_, rfl, hd'⟩ _ s H C cl fp
        obtain ⟨xs, rfl, hx1, hx2⟩ := hrows d hd'
        refine (w_call D1 hr2 (ws_cons (w_var (s := .st) 0) (ws_one (w_var (s := .da (.list xs)) 16))) ⟨xs, hx1, hx2, rfl, rfl⟩).imp ?_
        rintro _ ⟨e, he, rfl⟩
        exact ⟨xs, e, rfl, he, rfl⟩
      · rintro _ rfl
        rw [List.length_append]
        show 3 + wrong.length ≤ _
        omega
      · rintro d _ ⟨_, _, _, _, rfl⟩
        exact ⟨_, rfl⟩
      · rintro _ odd rfl hcoll
        obtain ⟨ho4, hb⟩ := hbad odd (picked_of (fun d b h => h.symm) hcoll)
        have hgl : (goodL L S Av ++ last).length = 3 + last.length := by rw [List.length_append]; rfl
        refine ss_setD 18 (w_lst [.str "listed", .str "chosen", .str "avoided", .str (nm3 wh)] (ws_cons w_str (ws_cons w_str (ws_cons w_str (ws_one (w_ix (w_lst [.str "", .str "index", .str "case"] (ws_cons w_str (ws_cons w_str (ws_one w_str)))) (w_var 12) rfl (nm3_at hw))))))) ?_ hN
        refine ss_ifN ((t_cmp cmp_neS (w_call D2 hr (ws_cons (w_var 12) (ws_one (w_var 15))) ⟨wh, _, _, hgood, rfl, rfl⟩) w_str).to (by show (!decide (("" : Str) = "")) = false; rw [decide_eq_true rfl]; rfl)) ?_
        refine ss_for (vs := [19]) (fun l i => aT G0 H0 [.st, .da (encL L), .da (encS S), .da (encS Av), .no, .no, .no, .no, .da (.list (badL L S)), .no, .no, .da (.list (rs.map encW)), .da (.int wh), .da (.list last), .da (.list wrong), .da (.list (goodL L S Av ++ last)), .no, .da (.list odd), .da (.list [.str "listed", .str "chosen", .str "avoided", .str (nm3 wh)]), .no] M0)
          (fun l i => aT G0 H0 [.st, .da (encL L), .da (encS S), .da (encS Av), .no, .no, .no, .no, .da (.list (badL L S)), .no, .no, .da (.list (rs.map encW)), .da (.int wh), .da (.list last), .da (.list wrong), .da (.list (goodL L S Av ++ last)), .no, .da (.list odd), .da (.list [.str "listed", .str "chosen", .str "avoided", .str (nm3 wh)]), .da (l.getD i .none)] M0)
          PassesOwn.never rfl (wi_range (n := 3 + last.length) ((w_lenL (w_var 15) T.len).to (by rw [hgl])) (by omega) T.range) (pg_name (i := 19) hN rfl (Or.inl rfl)) ?_ ?_ ?_ ?_
        · rintro _ rfl σ G H h
          exact h
        · rintro _ k d rfl hd
          rw [getD_at hd]
          exact gt_name 19
        · rintro _ k d rfl hd
          rw [getD_at hd]
          have hk : k < 3 + last.length := by
            have := (List.getElem?_eq_some_iff.mp hd).1
            rwa [rangeD_length] at this
          rw [rangeD_get hk] at hd
          cases hd
          obtain ⟨hk1, hk2⟩ := hb k hk
          have hk4 : k < 4 := by omega
          have e1 := cut_le (goodL L S Av ++ last) none (some (k : Int))
          have e2 := cut_le odd (some (k : Int)) (some ((k : Int) + 1))
          have e3 := cut_le (goodL L S Av ++ last) (some ((k : Int) + 1)) none
          have e4 := cut_le odd (some (k : Int)) none
          have eself : ∀ x : Str, (!decide (x = x)) = false := fun x => by rw [decide_eq_true rfl]; rfl
          refine ss_ifN ((t_w (tw_or (x := false) (y := false) ((t_cmp cmp_neS (w_call D2 hr (ws_cons (w_var 12) (ws_one (w_catL (w_catL (w_slL (w_var 15) wo_none (wo_some (w_var 19))) (w_slL (w_var 17) (wo_some (w_var 19)) (wo_some (w_add (w_var 19) w_int))) (by omega)) (w_slL (w_var 15) (wo_some (w_add (w_var 19) w_int)) wo_none) (by rw [List.length_append]; omega)))) ⟨wh, _, _, hk1, rfl, rfl⟩) (w_ix (w_var 18) (w_var 19) rfl (nameK_at hk4))).to (eself _)) fun _ =>
            tw_or1 ((t_cmp cmp_neS (w_call D2 hr (ws_cons (w_var 12) (ws_one (w_catL (w_slL (w_var 15) wo_none (wo_some (w_var 19))) (w_slL (w_var 17) (wo_some (w_var 19)) wo_none) (by omega)))) ⟨wh, _, _, hk2, rfl, rfl⟩) (w_ix (w_var 18) (w_var 19) rfl (nameK_at hk4))).to (eself _))))) ?_
          exact Ss.post ss_nil (aT_wk ⟨.inr rfl, .inr rfl, .inr rfl, .inr rfl, .inr rfl, .inr rfl, .inr rfl, .inr rfl, .inr rfl, .inr rfl, .inr rfl, .inr rfl, .inr rfl, .inr rfl, .inr rfl, .inr rfl, .inr rfl, .inr rfl, .inr rfl, .inl rfl, trivial⟩)
        · rintro _ rfl
          exact Ss.post ss_nil (aT_wk ⟨.inr rfl, .inr rfl, .inr rfl, .inr rfl, .inr rfl, .inr rfl, .inr rfl, .inr rfl, .inr rfl, .inr rfl, .inr rfl, .inr rfl, .inl rfl, .inl rfl, .inl rfl, .inl rfl, .inr rfl, .inl rfl, .inl rfl, .inr rfl, trivial⟩)
    · rintro _ rfl
      exact ss_ret w_bl (fun _ h => h)
  have r02 : ∀ r ∈ [((0 : Int), ([] : List PD), ([] : List PD)), (2, [encC c], [.list (bc L.ws c)])], RowOk L S Av r := by
    intro r hr
    simp only [List.mem_cons, List.not_mem_nil, or_false] at hr
    rcases hr with rfl | rfl
    · exact row0 hL hS hA
    · exact row2 hL hS hA hc
  by_cases hne : due L S Av = []
  · exact ss_ifF ((t_list (w_var 4)).to (by rw [hne]; rfl)) ss_nil (main _ r02)
  · refine ss_ifT ((t_list (w_var 4)).to (by
      obtain ⟨a, l, e⟩ := List.exists_cons_of_ne_nil hne
      rw [e]
      rfl)) (ss_append (S := Eq (.da (encW (1, [.int 0], [.list (bi (due L S Av).length)])))) (w_tup [.int 1, .list [.int 0], .list [.list (bi (due L S Av).length)]] (ws_cons w_int (ws_cons (w_lst [.int 0] (ws_one w_int)) (ws_one (w_lst [.list (bi (due L S Av).length)] (ws_one (w_var 9))))))) (w_var 11) (by show 2 ≤ _; decide) (by rintro _ rfl; exact ⟨_, rfl⟩) (by
        intro f hf
        injection hf with hf
        subst hf
        exact ss_nil)) (main [(0, [], []), (2, [encC c], [.list (bc L.ws c)]), (1, [.int 0], [.list (bi (due L S Av).length)])] ?_)
    intro r hr
    rw [List.mem_cons, List.mem_cons, List.mem_singleton] at hr
    rcases hr with rfl | rfl | rfl
    · exact row0 hL hS hA
    · exact row2 hL hS hA hc
    · exact row1 hL hS hA hne
end
end Fc
/-! FcX: for _law_agrees: nested blocks, open arguments. -/
namespace Fc
open PySem PySem.Spec PyProof.Rows L2
open Evl (Ex)
/-! ### nested comprehensions -/
def relS (sc1 scO : Scope) : Scope := { sc1 with names := sc1.names.map fun (n, k) => if (k == NameKind.free && scO.kind == .function && scO.names.lookup n == some .cell) then (n, NameKind.cell) else (n, k) }
theorem blkOk_nest {N : List Str} {scO scope1 scope2 : Scope} {env : Env} {own : List (Str × Nat)} (h : blkC N (relS scope1 scO) scope2 own = true) (hs : relabel scope1 env = relS scope1 scO) : BlkOk N (relabel scope1 env) scope2 own := by
  rw [hs]
  exact blkOk_by h
/-! ### a promise for less -/
def upF (F : List Sl → (Sl → Prop) → Prop) (ss : List Sl) (S : Sl → Prop) : Prop := ∃ S0, F ss S0 ∧ ∀ s, S0 s → S s
theorem Def.up {P : Program} {w : World} {K : PySem.W.Frag} {mg : Str → Option Value} {base : Heap} {CX : CXT} {k : Nat} {x : Str} {ps : List Str} {F : List Sl → (Sl → Prop) → Prop} (D : Def P w K mg base CX k x ps (spF F)) : Def P w K mg base CX k x ps (spF (upF F)) := by
  obtain ⟨f, fd, h1, h2⟩ := D
  refine ⟨f, fd, h1.imp ?_, h2⟩
  rintro vs H Q E ⟨G, ss, S, ⟨S0, h3, h4⟩, h5, h6, h7⟩
  exact ⟨G, ss, S0, h3, h5, h6, fun d v G' H' hd => h7 d v G' H' (h4 d hd)⟩
section
variable {X : Cx} {A : As} {e tg : Expr} {p pos : Pos}
theorem wi_tupQ {S : Sl → Prop} (h : W X A e S) (hS : ∀ s, S s → ∃ ds, s = .da (.tuple ds)) : Wi X A tg e (fun l => S (.da (.tuple l))) := PI.wk (pi_tup h) (by
  rintro σ H R ⟨G, s, as, q⟩
  refine ⟨G, s, as, ?_⟩
  rintro t v G1 H1 ht n1 dv
  obtain ⟨ds, rfl⟩ := hS t ht
  cases dv with
  | @tup p us _ h1 h2 =>
    refine ⟨p, rfl, ⟨us, SqT.of (n1.s _ _ h1)⟩, q ds _ G1 H1 ht n1 ⟨?_, ?_, ?_⟩⟩
    · rintro i H' hi ⟨G', n, n'⟩
      obtain ⟨x, hx, _⟩ := h2.get (List.getElem?_eq_getElem hi)
      exact ⟨us, x, SqT.of (n' _ _ (n _ _ h1)), hx⟩
    · rintro H' ⟨G', n, n'⟩
      exact ⟨us, SqT.of (n' _ _ (n _ _ h1)), by rw [h2.length]; exact Nat.le_refl _⟩
    · rintro i H' x H'' hi ⟨G0, n0⟩ ⟨rfl, hy⟩ G' n n'
      have hx := hy us (SqT.of (n' _ _ (n _ _ h1)))
      obtain ⟨d, hd, dd⟩ := h2.getV hx
      exact ⟨G', d, Nx.refl n', hd, dd.up n⟩)
/-- sorted(t), t a tuple of ints -/
theorem w_sortedT {ns : List Int} (h : WD X A e (.tuple (ns.map .int))) (hm : X.mg "sorted" = none) (hg : Gl X "sorted" := by rfl) (he : starEach [e] X.env = (false, eval e X.env) :: starEach [] X.env := by rfl) :
    W X A (.Call (.Name "sorted" p) [e] [] pos) (fun s => ∃ ns' : List Int, s = .da (.list (ns'.map .int)) ∧ ns'.Perm ns ∧ ns'.Pairwise (· ≤ ·)) :=
  w_blt cr_sortedT (ws_one h he) (by
    rintro _ vs G H rfl dv s Q q
    obtain ⟨v, rfl, dv'⟩ := slAll1 dv
    clear dv
    have dv := dv'
    clear dv'
    cases dv with
    | @tup a us _ h1 h2 =>
      have e := h2.ints
      subst e
      exact ⟨a, ns, rfl, SqT.of (s _ _ h1), fun ns' l hp hw hl => q _ _ _ _ ⟨ns', rfl, hp, hw⟩ (Nx.new s hl) (Dd.lst upd_same (DdAll.ofInts ns'))⟩) hm (by decide +kernel) hg (he := he)
end
/-! ### plain -/
theorem at_neg1 {α : Type} {l : List α} (h : l ≠ []) : atI l (-1) = some (l.getLast h) := by
  have hl : 0 < l.length := List.length_pos_iff.mpr h
  unfold atI ixN
  rw [if_neg (by decide), if_pos (by omega)]
  show l[(-1 + (l.length : Int)).toNat]? = _
  have : (-1 + (l.length : Int)).toNat = l.length - 1 := by omega
  rw [this, ← List.getLast?_eq_getElem?, List.getLast?_eq_getLast h]
theorem any_eqv (c : List Int) (l : List (List Int)) : ((l.map encC).any fun z => PyData.eqv z (encC c)) = decide (c ∈ l) := by
  rw [Bool.eq_iff_iff, List.any_eq_true, decide_eq_true_iff]
  constructor
  · rintro ⟨d, hd, he⟩
    obtain ⟨b, hb, rfl⟩ := List.mem_map.mp hd
    rw [eqv_encC] at he
    have := of_decide_eq_true he
    subst this
    exact hb
  · intro h
    exact ⟨encC c, List.mem_map.mpr ⟨c, h, rfl⟩, by rw [eqv_encC]; exact decide_eq_true rfl⟩
theorem idx_self {l : List (List Int)} {i : Nat} {c : List Int} (hn : l.Nodup) (h : l[i]? = some c) : l.idxOf c = i := by
  have hm := List.mem_of_getElem? h
  have hlt : l.idxOf c < l.length := List.idxOf_lt_length_of_mem hm
  have e : l[l.idxOf c]? = some c := by rw [List.getElem?_eq_getElem hlt, List.getElem_idxOf hlt]
  exact (List.getElem?_inj hlt hn).mp (e.trans h.symm)
theorem due_nodup (L : Li) (S A : List Nat) : (due L S A).Nodup := List.Pairwise.filter _ (casesM_nodup L.ws)
theorem castS (S : List Nat) : S.map natD = (S.map fun (k : Nat) => (k : Int)).map PyData.int := by rw [List.map_map]; rfl
theorem mem_cast {S : List Nat} {k : Nat} : ((k : Int) ∈ S.map fun (k : Nat) => (k : Int)) ↔ k ∈ S := by
  rw [List.mem_map]
  constructor
  · rintro ⟨j, hj, e⟩
    have : j = k := by omega
    subst this
    exact hj
  · intro h
    exact ⟨k, h, rfl⟩
theorem sub_filter (n : Nat) (f : Nat → Bool) : SubS n ((List.range n).filter f) := sub_range List.filter_sublist
def keyOf (d : PD) : List Int := (its (it d 0)).map intD
theorem keyOf_T (z : List Int × Int) : keyOf (encT z) = z.1 := by
  show (z.1.map PyData.int).map intD = z.1
  rw [List.map_map]
  have : (intD ∘ PyData.int) = id := rfl
  rw [this, List.map_id]
/-! ### classes of what is compared -/
def C1 : PD → Prop := upC fun _ => False
def C2 : PD → Prop := upC C1
def C3 : PD → Prop := upC C2
theorem c3_int (i : Int) : C3 (.int i) := .inl trivial
theorem c3_none : C3 .none := .inl trivial
theorem c2_case {c : List Int} (h : c.length ≤ 3) : C2 (encC c) := .inr ⟨_, rfl, by rw [List.length_map]; omega, fun x hx => by
  obtain ⟨i, _, rfl⟩ := List.mem_map.mp hx
  exact .inl trivial⟩
theorem c3_pair {c : List Int} (h : c.length ≤ 3) (i : Int) : C3 (.list [encC c, .int i]) := .inr ⟨_, rfl, by show 2 ≤ 1000; decide, fun x hx => by
  rcases List.mem_cons.mp hx with rfl | hx
  · exact c2_case h
  · rw [List.mem_singleton.mp hx]
    exact .inl trivial⟩
theorem c3_str (x : Str) : C3 (.list [.str x]) := .inr ⟨_, rfl, by show 1 ≤ 1000; decide, fun y hy => by
  rw [List.mem_singleton.mp hy]
  exact .inl trivial⟩
end Fc
/-! FcY: _law_agrees. -/
namespace Fc
open PySem PySem.Spec PyProof.Rows L2
open Evl (Ex)
def FAgr (ss : List Sl) (R : Sl → Prop) : Prop := ∃ L, OkL L ∧ ss = [.st, .da (encL L)] ∧ R = Eq (.da (.bool true))
abbrev sAgr : Stmt := topS 42
abbrev nAgr : List Str := ["_law_stream_here", "_law_listed", "_law_many", "_law_chosen", "_law_k", "_law_avoided", "_law_cases_here", "_law_case", "_law_due", "_law_turn", "_law_at", "_law_region", "_law_number", "_law_parts", "_law_rest", "_law_more", "_law_split"]
theorem scAgr : FnScope nAgr ["_law_stream_here", "_law_listed"] (defScope sAgr) := ⟨rfl, rfl, rfl, by decide +kernel, rfl, by decide +kernel, by decide +kernel⟩
section
variable {P : Program} {w : World} {K : PySem.W.Frag} {mg : Str → Option Value} {base : Heap} {f C : Addr} {fd : FuncData} {k : Nat}
theorem d_agr (T : Txt K mg) (Dnext : Def P w K mg base CX0 1 "_law_next" ["_law_stream_here", "_law_many"] (spF FNext)) (Dpick : Def P w K mg base CX0 2 "_law_pick" ["_law_stream_here", "_law_rows"] (spF FPick)) (Dsome : Def P w K mg base CX0 2 "_law_some" ["_law_stream_here", "_law_many"] (spF FSome))
    (Dlc : Def P w K mg base CX0 1 "_law_cases" ["_law_widths"] (spF FCases)) (Dlm : Def P w K mg base CX0 1 "_law_matches" ["_law_listed", "_law_number", "_law_case"] (spF FMatch)) (Deq : Def P w K mg base CX0 4 "_law_equal" ["_law_actual", "_law_due"] (spF (FEq C3)))
    (Dcount : Def P w K mg base (L2.CX P w) 7 "count_cases" ["listed", "chosen", "avoided"] (spX C FCount)) (Dnth : Def P w K mg base (L2.CX P w) 7 "nth_case" ["listed", "chosen", "avoided", "index"] (spX C FNth)) (Didx : Def P w K mg base (L2.CX P w) 7 "index_of_case" ["listed", "chosen", "avoided", "case"] (spX C FIdx))
    (Dtold : Def P w K mg base CX0 8 "_law_told" ["_law_listed", "_law_chosen", "_law_avoided", "_law_index"] (spF FTold)) (Dreg : Def P w K mg base CX0 6 "regions" ["listed"] (spF FRegions)) (Dref : Def P w K mg base CX0 9 "_law_refuses" pRef (spF FRef))
    (Fn : Fun K "_law_agrees" "_law_agrees" sAgr f fd) (hm : mg "_law_agrees" = some (.ref f)) (hb : Binds K fd ["_law_stream_here", "_law_listed"] []) : Def P w K mg base CX0 10 "_law_agrees" ["_law_stream_here", "_law_listed"] (spF FAgr) := by
  refine def_of Fn hm hb scAgr (by rintro _ _ ⟨L, _, rfl, _⟩; rfl) (fun cdv Ar outer s H E hr => ?_)
  rintro _ _ ⟨L, hL, rfl, rfl⟩ G0 H0
  have hN := scAgr.nd
  have h7 := hL.r7
  have hw3 := hL.w3
  have hr1 := hr.mono (j := 1) (by decide)
  have hr2 := hr.mono (j := 2) (by decide)
  have hr4 := hr.mono (j := 4) (by decide)
  have hr6 := hr.mono (j := 6) (by decide)
  have hr7 := hr.mono (j := 7) (by decide)
  have hr8 := hr.mono (j := 8) (by decide)
  have h512 := casesM_512 hL.wv hL.w3
  generalize hn : L.rules.length = n at h7
  refine ss_setD (d := natD n) 2 ((w_lenT (w_L1 (w_var 1)) T.len).to (by rw [List.length_map, hn]; rfl)) ?_ hN
  refine ss_set 3 (w_call Dsome hr2 (ws_cons (w_var 0) (ws_one (w_var 2))) ⟨n, by omega, rfl, rfl⟩) ?_ hN rfl (Or.inr rfl)
  rintro _ ⟨S, hS, rfl⟩
  refine ss_set 5 (w_callG (S := fun s => ∃ A, SubS n A ∧ s = .da (encS A)) Dpick.up hr2 pass0 (ws_consQ (w_var 0) (ws_consQ (w_lstQ (ws_consQ (w_call Dsome hr2 (ws_cons (w_var 0) (ws_one (w_var 2))) ⟨n, by omega, rfl, rfl⟩) (ws_consQ (w_tupleL (w_lc (own := [("_law_k", 4)]) (List.range n) natD (fun k => aT G0 H0 [.st, .da (encL L), .da (natD n), .da (encS S), .da (natD k), .no, .no, .no, .no, .no, .no, .no, .no, .no, .no, .no, .no] M0) (fun (k : Nat) => !decide ((k : Int) ∈ S.map fun (k : Nat) => (k : Int))) natD rfl hN
      ((wi_range (n := n) (w_var 2) (by omega) T.range).to rfl) (blkOk_by (own := [("_law_k", 4)]) (N := nAgr) (sc := defScope sAgr) (by decide +kernel)) (fun _ _ _ _ _ => pg_name (i := 4) hN rfl (Or.inl rfl)) (fun a _ => gt_name 4)
      (fun k hk s H C cl fp => pts_T1 (t_cmp cmp_notIn (w_var 4) ((w_var (s := .da (encS S)) 3).to (congrArg PyData.tuple (castS S))))) (fun k hk hf s H C cl fp => w_var 4) natD_inj (by rw [List.length_range]; omega)) T.tuple) (ws_consQ (w_tup [] ws_nil) ws_nil))) ?_) ws_nil)) ?_) ?_ hN rfl (Or.inr rfl)
  · rintro _ ⟨_, _, rfl, ⟨S2, hS2, rfl⟩, _, _, rfl, rfl, _, _, rfl, rfl, rfl⟩
    exact ⟨[encS S2, .tuple _, .tuple []], rfl, by show 3 ≤ 1000; decide⟩
  · rintro _ ⟨_, _, rfl, rfl, _, _, rfl, ⟨ds, ⟨_, _, e, ⟨S2, hS2, rfl⟩, _, _, rfl, rfl, _, _, rfl, rfl, rfl⟩, rfl⟩, rfl⟩
    have hds := da_inj (es := [encS S2, .tuple (((List.range n).filter fun (k : Nat) => !decide ((k : Int) ∈ S.map fun (k : Nat) => (k : Int))).map natD), .tuple []]) e
    subst hds
    refine ⟨_, ⟨_, List.cons_ne_nil _ _, by show 3 ≤ 1000; decide, rfl, rfl⟩, ?_⟩
    rintro _ ⟨d, hd, rfl⟩
    simp only [List.mem_cons, List.not_mem_nil, or_false] at hd
    rcases hd with rfl | rfl | rfl
    · exact ⟨S2, hS2, rfl⟩
    · exact ⟨_, sub_filter n _, rfl⟩
    · exact ⟨[], ⟨List.Pairwise.nil, fun k hk => by simp at hk⟩, rfl⟩
  rintro _ ⟨A, hA, rfl⟩
  have hS' : SubS L.rules.length S := by rw [hn]; exact hS
  have hA' : SubS L.rules.length A := by rw [hn]; exact hA
  have sS := sts_of hL hS'
  have sA := sts_of hL hA'
  refine ss_setD 6 (w_call Dlc hr1 (ws_one (w_L0 (w_var 1))) ⟨L.ws, hL.w3, hL.wv, rfl, rfl⟩) ?_ hN
  refine ss_setLc (own := [("_law_case", 7)]) 8 (casesM L.ws) encC (fun c => aT G0 H0 [.st, .da (encL L), .da (natD n), .da (encS S), .no, .da (encS A), .da (.list ((casesM L.ws).map encC)), .da (encC c), .no, .no, .no, .no, .no, .no, .no, .no, .no] M0) (fits L S A) encC rfl hN rfl rfl (sw_true rfl rfl rfl (by decide +kernel)) (wi_lst (w_var 6))
    (blkOk_by (own := [("_law_case", 7)]) (N := nAgr) (sc := defScope sAgr) (by decide +kernel)) (fun _ _ _ _ _ => pg_name (i := 7) hN rfl (Or.inr rfl)) (fun a _ => gt_name 7) (fun c hc s H C cl fp => pts_T1 (TD.to (t_w (tw_and
      (t_val (w_allF rfl (w_lc0 (own := [("_law_k", 4)]) S natD (fun k => aT G0 H0 [.st, .da (encL L), .da (natD n), .da (encS S), .da (natD k), .da (encS A), .da (.list ((casesM L.ws).map encC)), .da (encC c), .no, .no, .no, .no, .no, .no, .no, .no, .no] M0) (fun k => .bool (mtch L k c)) rfl hN (wi_tup (w_var (s := .da (encS S)) 3)) (blkOk_nest (N := nAgr) (scO := defScope sAgr) (by decide +kernel) rfl) (fun _ _ _ _ _ => pg_name (i := 4) hN rfl (Or.inl rfl)) (fun a _ => gt_name 4)
        (fun k hk s H C cl fp => w_call Dlm hr1 (ws_cons (w_var 1) (ws_cons (w_var 4) (ws_one (w_var 7)))) ⟨L, k, c, hL, hS'.2 k hk, casesM_len hc, rfl, rfl⟩) natD_inj (by have := hS.len; omega)) T.all)) fun _ => tw_and1 (t_not
      (t_val (w_anyF rfl (w_lc0 (own := [("_law_k", 4)]) A natD (fun k => aT G0 H0 [.st, .da (encL L), .da (natD n), .da (encS S), .da (natD k), .da (encS A), .da (.list ((casesM L.ws).map encC)), .da (encC c), .no, .no, .no, .no, .no, .no, .no, .no, .no] M0) (fun k => .bool (mtch L k c)) rfl hN (wi_tup (w_var (s := .da (encS A)) 5)) (blkOk_nest (N := nAgr) (scO := defScope sAgr) (by decide +kernel) rfl) (fun _ _ _ _ _ => pg_name (i := 4) hN rfl (Or.inl rfl)) (fun a _ => gt_name 4)
        (fun k hk s H C cl fp => w_call Dlm hr1 (ws_cons (w_var 1) (ws_cons (w_var 4) (ws_one (w_var 7)))) ⟨L, k, c, hL, hA'.2 k hk, casesM_len hc, rfl, rfl⟩) natD_inj (by have := hA.len; omega)) T.any))))) rfl)) (fun c hc hf s H C cl fp => w_var 7) encC_inj (by omega) ?_
  have hdl : ∀ {X : Cx} {A' : As} {e : Expr}, WD X A' e (.int ((((casesM L.ws).filter (fits L S A)).map encC).length : Nat)) → WD X A' e (.int ((due L S A).length : Nat)) := fun h => h.to (by rw [List.length_map]; rfl)
  have hidx : ∀ c ∈ casesM L.ws, ∀ l, [.da (encL L), .da (encS S), .da (encS A), .da (encC c)] = l → FIdx l (.ok (Eq (.da (if fits L S A c = true then .int ((due L S A).idxOf c : Nat) else .none)))) := by
    rintro c hc _ rfl
    cases hf : fits L S A c with
    | true => exact .inr ⟨L, S, A, _, hL, sS, sA, rfl, .inr ⟨c, rfl, hc, case_ok hc, .inr ⟨hf, by rw [if_pos rfl]; rfl⟩⟩⟩
    | false => exact .inr ⟨L, S, A, _, hL, sS, sA, rfl, .inr ⟨c, rfl, hc, case_ok hc, .inl ⟨hf, by rw [if_neg (by decide)]; rfl⟩⟩⟩
  refine ss_ifN (TD.to (t_w (tw_or (x := false) (y := false) (TD.to (t_not (t_val (w_call Deq hr4 (ws_cons (w_callG (S := Eq (.da (.int ((due L S A).length : Nat)))) Dcount.ok hr7 passL (ws_cons (w_var 1) (ws_cons (w_var 3) (ws_one (w_var 5)))) (by rintro _ rfl; exact .inr ⟨L, S, A, hL, sS, sA, rfl, rfl⟩)) (ws_one (hdl (w_lenL (w_var 8) T.len)))) ⟨_, c3_int _, rfl, rfl⟩))) rfl) fun _ =>
    tw_or1 (TD.to (t_not (t_val (w_call Deq hr4 (ws_cons (w_call (S := Eq (.da (.list [.str "index"]))) Dtold hr8 (ws_cons (w_var 1) (ws_cons (w_var 3) (ws_cons (w_var 5) (ws_one (hdl (w_lenL (w_var 8) T.len)))))) ⟨L, S, A, _, hL, sS, sA, bi_bad _ _ (by simp [bi, natD]), rfl, rfl⟩) (ws_one (w_lst [.str "index"] (ws_one w_str)))) ⟨_, c3_str _, rfl, rfl⟩))) rfl))) rfl) ?_
  refine ss_for (vs := [9]) (fun l i => aT G0 H0 [.st, .da (encL L), .da (natD n), .da (encS S), .no, .da (encS A), .da (.list ((casesM L.ws).map encC)), .no, .da (.list ((due L S A).map encC)), .no, .no, .no, .no, .no, .no, .no, .no] M0) (fun l i => aT G0 H0 [.st, .da (encL L), .da (natD n), .da (encS S), .no, .da (encS A), .da (.list ((casesM L.ws).map encC)), .no, .da (.list ((due L S A).map encC)), .da (l.getD i .none), .no, .no, .no, .no, .no, .no, .no] M0)
    PassesOwn.never rfl (wi_range (n := 3) (w_int.to rfl) (by decide) T.range) (pg_name (i := 9) hN rfl (Or.inl rfl)) ?_ ?_ ?_ ?_
  · rintro _ rfl σ G H h
    exact h
  · rintro _ i d rfl hd
    rw [getD_at hd]
    exact gt_name 9
  · rintro _ i d rfl hd
    rw [getD_at hd]
    have turn : Ss (cxOf CX0 P w K mg base nAgr "_law_agrees" (defScope sAgr) f cdv Ar outer s H E).nox G0 H0 (aT G0 H0 [.st, .da (encL L), .da (natD n), .da (encS S), .no, .da (encS A), .da (.list ((casesM L.ws).map encC)), .no, .da (.list ((due L S A).map encC)), .da d, .no, .no, .no, .no, .no, .no, .no] M0)
        ((match ((defBody sAgr).drop 6).head? with | some (.For _ _ b _ _) => b | _ => []).drop 1) (aT G0 H0 [.st, .da (encL L), .da (natD n), .da (encS S), .no, .da (encS A), .da (.list ((casesM L.ws).map encC)), .no, .da (.list ((due L S A).map encC)), .no, .no, .no, .no, .no, .no, .no, .no] M0) (Eq (.da (.bool true))) := by
      refine ss_set 7 (w_call Dpick hr2 (ws_cons (w_var 0) (ws_one (w_var 6))) ⟨_, fun z => casesM_ne hL (List.map_eq_nil_iff.mp z), by rw [List.length_map]; omega, rfl, rfl⟩) ?_ hN rfl (Or.inl rfl)
      rintro _ ⟨d', hd', rfl⟩
      obtain ⟨c, hc, rfl⟩ := List.mem_map.mp hd'
      have hcmp : ((due L S A).map encC).any (fun z => PyData.eqv z (encC c)) = fits L S A c := by
        rw [any_eqv]
        cases hf : fits L S A c with
        | true => exact decide_eq_true (List.mem_filter.mpr ⟨hc, hf⟩)
        | false => exact decide_eq_false fun z => by rw [(List.mem_filter.mp z).2] at hf; cases hf
      refine ss_ifN (TD.to (t_not (t_val (w_call Deq hr4 (ws_cons (w_callG Didx.ok hr7 passL (ws_cons (w_var 1) (ws_cons (w_var 3) (ws_cons (w_var 5) (ws_one (w_var 7))))) (hidx c hc)) (ws_one ?_)) ⟨_, ?_, rfl, rfl⟩))) rfl) (Ss.post ss_nil (aT_wk ⟨.inr rfl, .inr rfl, .inr rfl, .inr rfl, .inr rfl, .inr rfl, .inr rfl, .inl rfl, .inr rfl, .inl rfl, .inr rfl, .inr rfl, .inr rfl, .inr rfl, .inr rfl, .inr rfl, .inr rfl, trivial⟩))
      · cases hf : fits L S A c with
        | true => exact w_ifT (TD.to (t_cmp (cmp_inD hr.u65 (shaped_encC c) (shaped_cs (due L S A))) (w_var 7) (w_var 8)) (hcmp.trans hf)) (w_index (l := due L S A) (w_var 8) (w_var 7) (List.mem_filter.mpr ⟨hc, hf⟩) hr.u65)
        | false => exact w_ifF (TD.to (t_cmp (cmp_inD hr.u65 (shaped_encC c) (shaped_cs (due L S A))) (w_var 7) (w_var 8)) (hcmp.trans hf)) w_non
      · split
        · exact c3_int _
        · exact c3_none
    by_cases hne : due L S A = []
    · exact ss_ifF (TD.to (t_list (w_var 8)) (by rw [hne]; rfl)) ss_nil turn
    · have hpos : 0 < (due L S A).length := List.length_pos_iff.mpr hne
      have hle : (due L S A).length ≤ 512 := Nat.le_trans (List.length_filter_le _ _) h512
      refine ss_ifT (TD.to (t_list (w_var 8)) (by
        obtain ⟨a, l, e⟩ := List.exists_cons_of_ne_nil hne
        rw [e]
        rfl)) ?_ turn
      refine ss_set 10 (w_call Dnext hr1 (ws_cons (w_var 0) (ws_one (hdl (w_lenL (w_var 8) T.len)))) ⟨_, by omega, by omega, rfl, rfl⟩) ?_ hN rfl (Or.inl rfl)
      rintro _ ⟨i, rfl, hi0, hi1⟩
      obtain ⟨j, rfl⟩ : ∃ j : Nat, i = j := ⟨i.toNat, by omega⟩
      have hj : j < (due L S A).length := by omega
      obtain ⟨c, hget⟩ : ∃ c, (due L S A)[j]? = some c := ⟨_, List.getElem?_eq_getElem hj⟩
      have hcd := List.mem_of_getElem? hget
      obtain ⟨hcm, hcf⟩ := List.mem_filter.mp hcd
      have hix := idx_self (due_nodup L S A) hget
      have hat : atI ((due L S A).map encC) (j : Int) = some (encC c) := atI_nat (by rw [List.getElem?_map, hget]; rfl)
      refine ss_ifN (TD.to (t_not (t_val (w_call Deq hr4 (ws_cons (w_lst [encC c, .int (j : Int)] (ws_cons (w_callG (S := Eq (.da (encC c))) Dnth.ok hr7 passL (ws_cons (w_var 1) (ws_cons (w_var 3) (ws_cons (w_var 5) (ws_one (w_var 10))))) (by rintro _ rfl; exact .inr ⟨L, S, A, _, hL, sS, sA, rfl, .inr ⟨j, c, rfl, hget, rfl⟩⟩)) (ws_one (w_callG (S := Eq (.da (.int (j : Int)))) Didx.ok hr7 passL (ws_cons (w_var 1) (ws_cons (w_var 3) (ws_cons (w_var 5) (ws_one (w_ix (w_var 8) (w_var 10) rfl hat))))) (by
        intro l hl
        have := hidx c hcm l hl
        rw [if_pos hcf, hix] at this
        exact this)))))
        (ws_one (w_lst [encC c, .int (j : Int)] (ws_cons (w_ix (w_var 8) (w_var 10) rfl hat) (ws_one (w_var 10)))))) ⟨_, c3_pair (by rw [casesM_len hcm]; exact hw3) _, rfl, rfl⟩))) rfl) (Ss.post ss_nil (aT_wk ⟨.inr rfl, .inr rfl, .inr rfl, .inr rfl, .inr rfl, .inr rfl, .inr rfl, .inr rfl, .inr rfl, .inr rfl, .inl rfl, .inr rfl, .inr rfl, .inr rfl, .inr rfl, .inr rfl, .inr rfl, trivial⟩))
  · rintro _ rfl
    have hts512 : ∀ ts : Tab, ts.Perm (tabM (sigs L)) → ts.length ≤ 512 := by
      intro ts hts
      rw [hts.length_eq]
      have := tab_len (sigs L)
      have h2 : (sigs L).length ≤ 512 := by unfold sigs; rw [List.length_map]; exact h512
      omega
    refine ss_setLcQ (own := [("_law_region", 11), ("_law_number", 12)]) (g := gTup K 2 (gCons (gName 11) (gCons (gName 12) gNil))) (L := fun l => ∃ ts : Tab, ts.Perm (tabM (sigs L)) ∧ l = ts.map encT) (B := fun d b => b = qS S A (keyOf d)) (S := fun d s => s = .da (it d 1)) 13
      (fun d => aT G0 H0 [.st, .da (encL L), .da (natD n), .da (encS S), .no, .da (encS A), .da (.list ((casesM L.ws).map encC)), .no, .da (.list ((due L S A).map encC)), .no, .no, .da (it d 0), .da (it d 1), .no, .no, .no, .no] M0)
      rfl hN rfl rfl (sw_true rfl rfl rfl (by decide +kernel)) ((wi_tupQ (w_call Dreg hr6 (ws_one (w_var 1)) ⟨L, hL, rfl, rfl⟩) (by rintro _ ⟨ts, _, rfl⟩; exact ⟨_, rfl⟩)).imp (by
        rintro l ⟨ts, hts, e⟩
        injection e with e
        injection e with e
        exact ⟨ts, hts, e⟩)) (blkOk_by (own := [("_law_region", 11), ("_law_number", 12)]) (N := nAgr) (sc := defScope sAgr) (by decide +kernel)) ?_ ?_ ?_ ?_ ?_ ?_ ?_
    · exact fun _ _ _ _ _ => pg_tup (n := 2) (t := gCons (gName 11) (gCons (gName 12) gNil)) rfl (pgs_cons (pg_name (i := 11) hN rfl (Or.inr rfl)) (pgs_cons (pg_name (i := 12) hN rfl (Or.inl rfl)) pgs_nil))
    · rintro d ⟨_, ⟨ts, _, rfl⟩, hd⟩
      obtain ⟨z, _, rfl⟩ := List.mem_map.mp hd
      exact gt_two 11 12 (by decide)
    · rintro d ⟨_, ⟨ts, _, rfl⟩, hd⟩ s H C cl fp
      obtain ⟨z, _, rfl⟩ := List.mem_map.mp hd
      refine pts_T1 (Fc.T.imp (B := Eq (qS S A z.1)) (TD.to (t_w (tw_and
        (t_val (w_allF (b := fun (k : Nat) => decide ((k : Int) ∈ z.1)) rfl (w_lc0 (own := [("_law_k", 4)]) S natD (fun k => aT G0 H0 [.st, .da (encL L), .da (natD n), .da (encS S), .da (natD k), .da (encS A), .da (.list ((casesM L.ws).map encC)), .no, .da (.list ((due L S A).map encC)), .no, .no, .da (encC z.1), .da (.int z.2), .no, .no, .no, .no] M0) (fun (k : Nat) => .bool (decide ((k : Int) ∈ z.1))) rfl hN (wi_tup (w_var (s := .da (encS S)) 3)) (blkOk_nest (N := nAgr) (scO := defScope sAgr) (by decide +kernel) rfl) (fun _ _ _ _ _ => pg_name (i := 4) hN rfl (Or.inl rfl)) (fun a _ => gt_name 4)
          (fun k hk s H C cl fp => w_cmp cmp_in (w_var 4) (w_var (s := .da (encC z.1)) 11)) natD_inj (by have := hS.len; omega)) T.all)) fun _ => tw_and1 (t_not
        (t_val (w_anyF (b := fun (k : Nat) => decide ((k : Int) ∈ z.1)) rfl (w_lc0 (own := [("_law_k", 4)]) A natD (fun k => aT G0 H0 [.st, .da (encL L), .da (natD n), .da (encS S), .da (natD k), .da (encS A), .da (.list ((casesM L.ws).map encC)), .no, .da (.list ((due L S A).map encC)), .no, .no, .da (encC z.1), .da (.int z.2), .no, .no, .no, .no] M0) (fun (k : Nat) => .bool (decide ((k : Int) ∈ z.1))) rfl hN (wi_tup (w_var (s := .da (encS A)) 5)) (blkOk_nest (N := nAgr) (scO := defScope sAgr) (by decide +kernel) rfl) (fun _ _ _ _ _ => pg_name (i := 4) hN rfl (Or.inl rfl)) (fun a _ => gt_name 4)
          (fun k hk s H C cl fp => w_cmp cmp_in (w_var 4) (w_var (s := .da (encC z.1)) 11)) natD_inj (by have := hA.len; omega)) T.any))))) rfl) ?_)
      rintro b rfl
      rw [keyOf_T]
    · rintro d ⟨_, ⟨ts, _, rfl⟩, hd⟩ _ s H C cl fp
      obtain ⟨z, _, rfl⟩ := List.mem_map.mp hd
      exact (w_var (s := .da (it (encT z) 1)) 12).imp fun _ h => h.symm
    · rintro _ ⟨ts, hts, rfl⟩
      rw [List.length_map]
      have := hts512 ts hts
      omega
    · rintro d _ rfl
      exact ⟨_, rfl⟩
    · rintro _ r ⟨ts, hts, rfl⟩ hcoll
      have er : r = ((ts.filter fun z => qS S A z.1).map (·.2)).map PyData.int := by
        rw [Coll.detT (f := fun z : List Int × Int => qS S A z.1) (g := fun z => PyData.int z.2) (l := ts) (enc := encT) ?_ ?_ hcoll, List.map_map]
        · rfl
        · rintro a _ b rfl
          rw [keyOf_T]
        · rintro a _ _ e he
          injection he with he
      subst er
      have hsum : ((ts.filter fun z => qS S A z.1).map (·.2)).sum = ((due L S A).length : Int) := regions_sum sS.1 sA.1 hts
      refine ss_ifN (TD.to (t_cmp cmp_neI (w_sum rfl (w_var 13) T.sum) (hdl (w_lenL (w_var 8) T.len))) (by rw [hsum, decide_eq_true rfl]; rfl)) ?_
      refine ss_setLc (own := [("_law_k", 4)]) 14 (List.range n) natD (fun k => aT G0 H0 [.st, .da (encL L), .da (natD n), .da (encS S), .da (natD k), .da (encS A), .da (.list ((casesM L.ws).map encC)), .no, .da (.list ((due L S A).map encC)), .no, .no, .no, .no, .da (.list (((ts.filter fun z => qS S A z.1).map (·.2)).map PyData.int)), .no, .no, .no] M0) (fun (k : Nat) => !decide ((k : Int) ∈ (S ++ A).map fun (k : Nat) => (k : Int))) natD rfl hN rfl rfl (sw_true rfl rfl rfl (by decide +kernel)) ((wi_range (n := n) (w_var 2) (by omega) T.range).to rfl)
        (blkOk_by (own := [("_law_k", 4)]) (N := nAgr) (sc := defScope sAgr) (by decide +kernel)) (fun _ _ _ _ _ => pg_name (i := 4) hN rfl (Or.inl rfl)) (fun a _ => gt_name 4)
        (fun k hk s H C cl fp => pts_T1 (t_cmp cmp_notIn (w_var 4) (W.to (w_catT (xs := S.map natD) (ys := A.map natD) (w_var (s := .da (encS S)) 3) (w_var (s := .da (encS A)) 5) (by rw [List.length_map, List.length_map]; have := hS.len; have := hA.len; omega)) (by rw [← List.map_append]; exact congrArg PyData.tuple (castS _))))) (fun k hk hf s H C cl fp => w_var 4) natD_inj (by rw [List.length_range]; omega) ?_
      generalize hrs : (List.range n).filter (fun (k : Nat) => !decide ((k : Int) ∈ (S ++ A).map fun (k : Nat) => (k : Int))) = rs
      have hcne := casesM_ne hL
      have hlast : atI ((casesM L.ws).map encC) (-1) = some (encC ((casesM L.ws).getLast hcne)) := by
        rw [at_neg1 (fun z => hcne (List.map_eq_nil_iff.mp z)), List.getLast_map]
      have hclm := List.getLast_mem hcne
      by_cases hrest : rs = []
      · refine ss_ifR (TD.to (t_not (t_list (w_var 14))) (by rw [hrest]; rfl)) (ss_ret (w_call Dref hr (ws_cons (w_var 0) (ws_cons (w_var 1) (ws_cons (w_var 3) (ws_cons (w_var 5) (ws_cons (w_var 8) (ws_one (w_ix (w_var 6) (w_neg w_int) rfl hlast))))))) ⟨L, S, A, _, hL, hS', hA', hclm, rfl, rfl⟩) (fun _ h => h))
      · have hrl : rs.length ≤ n := by
          rw [← hrs]
          have := List.length_filter_le (fun (k : Nat) => !decide ((k : Int) ∈ (S ++ A).map fun (k : Nat) => (k : Int))) (List.range n)
          rwa [List.length_range] at this
        refine ss_ifN (TD.to (t_not (t_list (w_var 14))) (by
          obtain ⟨a, l, e⟩ := List.exists_cons_of_ne_nil hrest
          rw [e]
          rfl)) ?_
        refine ss_set 15 (w_call Dpick hr2 (ws_cons (w_var 0) (ws_one (w_var 14))) ⟨_, fun z => hrest (List.map_eq_nil_iff.mp z), by rw [List.length_map]; omega, rfl, rfl⟩) ?_ hN rfl (Or.inl rfl)
        rintro _ ⟨d, hd, rfl⟩
        obtain ⟨m, hm, rfl⟩ := List.mem_map.mp hd
        rw [← hrs] at hm
        obtain ⟨hm1, hm2⟩ := List.mem_filter.mp hm
        have hmn := List.mem_range.mp hm1
        have hmSA : m ∉ S ++ A := fun z => by
          rw [decide_eq_true (mem_cast.mpr z)] at hm2
          cases hm2
        have hmS : m ∉ S := fun z => hmSA (List.mem_append_left _ z)
        have hmA : m ∉ A := fun z => hmSA (List.mem_append_right _ z)
        refine ss_setD 16 (w_lst [.int (((casesM L.ws).filter fun c => fits L S A c && mtch L m c).length : Nat), .int (((casesM L.ws).filter fun c => fits L S A c && !mtch L m c).length : Nat)] (ws_cons
          (w_callG (S := Eq (.da (.int (((casesM L.ws).filter fun c => fits L S A c && mtch L m c).length : Nat)))) Dcount.ok hr7 passL (ws_consQ (w_var 1) (ws_consQ (w_tupleQ (w_sortedT (ns := (S ++ [m]).map fun (k : Nat) => (k : Int)) (W.to (w_catT (xs := S.map natD) (ys := [natD m]) (w_var (s := .da (encS S)) 3) (w_tup [natD m] (ws_one (w_var 15))) (by rw [List.length_map]; have := hS.len; simp; omega)) (by rw [← castS, List.map_append]; rfl)) T.sorted) (by rintro _ ⟨ns', rfl, _⟩; exact ⟨_, rfl⟩) T.tuple) (ws_consQ (w_var 5) ws_nil))) ?_)
          (ws_one (w_callG (S := Eq (.da (.int (((casesM L.ws).filter fun c => fits L S A c && !mtch L m c).length : Nat)))) Dcount.ok hr7 passL (ws_consQ (w_var 1) (ws_consQ (w_var 3) (ws_consQ (w_tupleQ (w_sortedT (ns := (A ++ [m]).map fun (k : Nat) => (k : Int)) (W.to (w_catT (xs := A.map natD) (ys := [natD m]) (w_var (s := .da (encS A)) 5) (w_tup [natD m] (ws_one (w_var 15))) (by rw [List.length_map]; have := hA.len; simp; omega)) (by rw [← castS, List.map_append]; rfl)) T.sorted) (by rintro _ ⟨ns', rfl, _⟩; exact ⟨_, rfl⟩) T.tuple) ws_nil))) ?_)))) ?_ hN
        · rintro _ ⟨_, _, rfl, rfl, _, _, rfl, ⟨ds, ⟨ns', e, hp, hw⟩, rfl⟩, _, _, rfl, rfl, rfl⟩
          injection e with e
          injection e with e
          subst e
          obtain ⟨S', rfl, hp', hsub⟩ := sub_more hS hmn hmS hp hw
          rw [← castS]
          refine .inr ⟨L, S', A, hL, sts_of hL (by rw [hn]; exact hsub), sA, rfl, ?_⟩
          have : (due L S' A).length = ((casesM L.ws).filter fun c => fits L S A c && mtch L m c).length := by
            unfold due
            rw [List.filter_congr fun c _ => fits_more hp' c]
          rw [this]
          rfl
        · rintro _ ⟨_, _, rfl, rfl, _, _, rfl, rfl, _, _, rfl, ⟨ds, ⟨ns', e, hp, hw⟩, rfl⟩, rfl⟩
          injection e with e
          injection e with e
          subst e
          obtain ⟨A', rfl, hp', hsub⟩ := sub_more hA hmn hmA hp hw
          rw [← castS]
          refine .inr ⟨L, S, A', hL, sS, sts_of hL (by rw [hn]; exact hsub), rfl, ?_⟩
          have : (due L S A').length = ((casesM L.ws).filter fun c => fits L S A c && !mtch L m c).length := by
            unfold due
            rw [List.filter_congr fun c _ => fits_less hp' c]
          rw [this]
          rfl
        · have hsp : (([(((casesM L.ws).filter fun c => fits L S A c && mtch L m c).length : Int), (((casesM L.ws).filter fun c => fits L S A c && !mtch L m c).length : Int)] : List Int)).sum = ((due L S A).length : Int) := by
            have := filter_split (fits L S A) (mtch L m) (casesM L.ws)
            simp only [List.sum_cons, List.sum_nil]
            unfold due
            omega
          refine ss_ret (w_and (w_cmp cmp_eqI (w_sum (ns := [(((casesM L.ws).filter fun c => fits L S A c && mtch L m c).length : Int), (((casesM L.ws).filter fun c => fits L S A c && !mtch L m c).length : Int)]) rfl (w_var 16) T.sum) (hdl (w_lenL (w_var 8) T.len))) fun _ => w_one (w_call Dref hr (ws_cons (w_var 0) (ws_cons (w_var 1) (ws_cons (w_var 3) (ws_cons (w_var 5) (ws_cons (w_var 8) (ws_one (w_ix (w_var 6) (w_neg w_int) rfl hlast))))))) ⟨L, S, A, _, hL, hS', hA', hclm, rfl, rfl⟩)) ?_
          rintro _ rfl
          rw [hsp, decide_eq_true rfl]
          rfl
end
end Fc
/-! FcZ: _law_stream, law. -/
namespace Fc
open PySem PySem.Spec PyProof.Rows L2
open Evl (Ex)
def spStream (K : PySem.W.Frag) : Sp := fun vs H Q _ => ∃ (a0 : Addr) (ns : List Int) (G : Hp), vs = [.ref a0] ∧ SqL K H a0 (ns.map V.int) ∧ Ex G H ∧ ∀ S G' H', Nx G H G' H' → Strm G' S → Q (.ref S) H'
abbrev sStream : Stmt := topS 29
theorem scStream : FnScope ["_law_script"] ["_law_script"] (defScope sStream) := ⟨rfl, rfl, rfl, by decide +kernel, rfl, by decide +kernel, by decide +kernel⟩
def spLaw (K : PySem.W.Frag) : Sp := fun vs H Q _ => ∃ (a : Addr) (ns : List Int), vs = [.ref a] ∧ SqL K H a (ns.map V.int) ∧ ns.length ≤ 63 ∧ ∀ H', Q (.bl true) H'
abbrev sLaw : Stmt := topS 43
theorem scLaw : FnScope ["_law_script", "_law_stream_here"] ["_law_script"] (defScope sLaw) := ⟨rfl, rfl, rfl, by decide +kernel, rfl, by decide +kernel, by decide +kernel⟩
section
variable {P : Program} {w : World} {K : PySem.W.Frag} {mg : Str → Option Value} {base : Heap} {f f1 : Addr} {fd fd1 : FuncData} {k : Nat}
theorem ok_stream (T : Txt K mg) (Fn : Fun K "_law_stream" "_law_stream" sStream f fd) : FnOk P w K mg base CX0 1 f fd ["_law_script"] (spStream K) := by
  refine Fn.ok scStream (fun vs H Q E h => ?_) (fun cdv A outer s H vs Q E hr h => ?_)
  · obtain ⟨a0, ns, G, rfl, _⟩ := h
    rfl
  · obtain ⟨a0, ns, G, rfl, hS, hx, q⟩ := h
    refine ⟨_, pss_one (ps_ret (pe_strNew (pa_cons (pe_callTy call_list_of (by rfl) T.list (by decide +kernel) (pa_cons (pv 0) pa_nil)) (pa_cons pe_int (pa_cons pe_int pa_nil))))), ?_⟩
    refine ⟨_, rfl, a0, _, rfl, .inl hS, fun l hl => ⟨l, rfl, fun p hp => ?_⟩⟩
    have n1 := Nx.new (o := .lst (ns.map V.int)) hx hl
    have n2 := n1.trans (Nx.new (o := strO p l) n1.s hp)
    have npl : l ≠ p := fun z => by
      rw [← z, upd_same] at hp
      cases hp
    exact q p _ _ n2 ⟨l, ns, upd_same, by rw [upd_ne npl, upd_same]⟩
theorem ok_law (T : Txt K mg) (F1 : Fun K "_law_stream" "_law_stream" sStream f1 fd1) (m1 : mg "_law_stream" = some (.ref f1)) (b1 : Binds K fd1 ["_law_script"] []) (Dlst : Def P w K mg base CX0 3 "_law_list" ["_law_stream_here", "_law_fields", "_law_most", "_law_rules"] (spF FLst)) (Dagr : Def P w K mg base CX0 10 "_law_agrees" ["_law_stream_here", "_law_listed"] (spF FAgr))
    (Fn : Fun K "law" "law" sLaw f fd) : FnOk P w K mg base CX0 11 f fd ["_law_script"] (spLaw K) := by
  have G1 : FnOk P w K mg base CX0 1 f1 fd1 ["_law_script"] (spStream K) := ok_stream T F1
  refine Fn.ok scLaw (fun vs H Q E h => ?_) (fun cdv A outer s H vs Q E hr h => ?_)
  · obtain ⟨a, ns, rfl, _⟩ := h
    rfl
  · obtain ⟨a, ns, rfl, hS, _, q⟩ := h
    have hr1 := hr.mono (j := 1) (by decide)
    have hr3 := hr.mono (j := 3) (by decide)
    have body : Ss (cxOf CX0 P w K mg base ["_law_script", "_law_stream_here"] "law" (defScope sLaw) f cdv A outer s H E).nox (fun _ => none) H (aT (fun _ => none) H [.no, .st] M0) ((defBody sLaw).drop 1) bot (Eq (.da (.bool true))) := by
      refine ss_ret (w_and (w_callG (S := Eq (.da (.bool true))) Dagr hr pass0 (ws_consQ (w_var 1) (ws_consQ (w_call Dlst hr3 (ws_cons (w_var 1) (ws_cons w_int (ws_cons w_int (ws_one w_int)))) ⟨4, by decide, by decide, rfl, rfl⟩) ws_nil)) ?_) fun _ => w_one (w_callG (S := Eq (.da (.bool true))) Dagr hr pass0 (ws_consQ (w_var 1) (ws_consQ (w_call Dlst hr3 (ws_cons (w_var 1) (ws_cons w_int (ws_cons w_int (ws_one w_int)))) ⟨8, by decide, by decide, rfl, rfl⟩) ws_nil)) ?_)) ?_
      · rintro _ ⟨_, _, rfl, rfl, _, _, rfl, ⟨L, hL, rfl⟩, rfl⟩
        exact ⟨L, hL, rfl, rfl⟩
      · rintro _ ⟨_, _, rfl, rfl, _, _, rfl, ⟨L, hL, rfl⟩, rfl⟩
        exact ⟨L, hL, rfl, rfl⟩
      · rintro _ rfl
        rfl
    refine ⟨_, pss_cons (ps_set (i := 1) scLaw.nd rfl (Or.inl rfl) (pe_call G1 hr1 rfl m1 F1.kp b1 .nil pass0 (pa_cons (pv 0) pa_nil))) body, ?_⟩
    refine ⟨_, rfl, a, ns, (fun _ => none), rfl, hS, (fun _ _ z => nomatch z), fun S G' H' n hst => ?_⟩
    refine ⟨G', n.s, ⟨n, ⟨.inl rfl, .inr ⟨_, rfl, S, rfl, hst⟩, trivial⟩, trivial⟩, fun _ _ _ _ _ z => z.elim, ?_⟩
    rintro _ v G2 H2 rfl n2 dv
    cases dv
    exact q H2
end
end Fc
/-! FcEnd: what the top has written, the walk. -/
namespace Fc
open PySem PySem.Spec PyProof.Rows L2
/-! ### what the top has written -/
section
theorem exm_self {K : PySem.W.Frag} {S : Addr} (h1 : PySem.W.subIn K (.ref S) (.type "BaseException") = some true) (h2 : PySem.W.isClsIn K S = true) (h3 : PySem.W.typeIn K (.ref S) = some (.type "type")) (h4 : PySem.W.subIn K (.ref S) (.ref S) = some true) :
    PySem.W.exmOne K (.ref S) (.ref S) = some true := by
  have e1 : (PySem.W.subIn K (.ref S) (.type "BaseException") == some true) = true := by rw [h1] <;> rfl
  have e2 : ((PySem.W.clsIn K S).isSome && PySem.W.typeIn K (.ref S) == some (.type "type")) = true := by
    have h2' : (PySem.W.clsIn K S).isSome = true := h2
    rw [h2', h3] <;> rfl
  show (if (PySem.W.subIn K (.ref S) (.type "BaseException") == some true) = true then (if ((PySem.W.clsIn K S).isSome && PySem.W.typeIn K (.ref S) == some (.type "type")) = true then PySem.W.subIn K (.ref S) (.ref S) else none) else none) = some true
  rw [if_pos e1, if_pos e2]
  exact h4
theorem all_mk {l : PySem.W.OpenLaw} {w : World} {K : PySem.W.Frag} {h : Heap} {mg : Str → Option Value} {fa C RE f0 f8 f9 f10 f11 f12 f13 f14 f15 f16 f17 f18 f19 f20 f22 f23 f24 f25 f26 f27 f29 f30 f31 f32 f33 f34 f35 f36 f37 f38 f39 f40 f41 f42 f43 : Addr} (X : K.In h) (G : h.Ns mainGlobals mg) (hfa : mg "law" = some (.ref fa))
    {nm q : Str} {N : Addr} {bs : List Value} {sn : List Str} {sub : List Value} {ab : Bool} {col : Option Bool} {dd : Option Addr} {m0 m1 m2 m3 m5 : Option Value}
    {od0 an0 od8 an8 od9 an9 od10 an10 od11 an11 od12 an12 od13 an13 od14 an14 od15 an15 od16 an16 od17 an17 od18 an18 od19 an19 od20 an20 od22 an22 od23 an23 od24 an24 od25 an25 od26 an26 od27 an27 od29 an29 od30 an30 od31 an31 od32 an32 od33 an33 od34 an34 od35 an35 od36 an36 od37 an37 od38 an38 od39 an39 od40 an40 od41 an41 od42 an42 od43 an43 : Option Addr} {sl0 sl8 sl9 sl10 sl11 sl12 sl13 sl14 sl15 sl16 sl17 sl18 sl19 sl20 sl22 sl23 sl24 sl25 sl26 sl27 sl29 sl30 sl31 sl32 sl33 sl34 sl35 sl36 sl37 sl38 sl39 sl40 sl41 sl42 sl43 : Array (Option Value)} {oc0 kV0 dc0 pm0 cd0 ct0 oc8 kV8 dc8 pm8 cd8 ct8 oc9 kV9 dc9 pm9 cd9 ct9 oc10 kV10 dc10 pm10 cd10 ct10 oc11 kV11 dc11 pm11 cd11 ct11 oc12 kV12 dc12 pm12 cd12 ct12 oc13 kV13 dc13 pm13 cd13 ct13 oc14 kV14 dc14 pm14 cd14 ct14 oc15 kV15 dc15 pm15 cd15 ct15 oc16 kV16 dc16 pm16 cd16 ct16 oc17 kV17 dc17 pm17 cd17 ct17 oc18 kV18 dc18 pm18 cd18 ct18 oc19 kV19 dc19 pm19 cd19 ct19 oc20 kV20 dc20 pm20 cd20 ct20 oc22 kV22 dc22 pm22 cd22 ct22 oc23 kV23 dc23 pm23 cd23 ct23 oc24 kV24 dc24 pm24 cd24 ct24 oc25 kV25 dc25 pm25 cd25 ct25 oc26 kV26 dc26 pm26 cd26 ct26 oc27 kV27 dc27 pm27 cd27 ct27 oc29 kV29 dc29 pm29 cd29 ct29 oc30 kV30 dc30 pm30 cd30 ct30 oc31 kV31 dc31 pm31 cd31 ct31 oc32 kV32 dc32 pm32 cd32 ct32 oc33 kV33 dc33 pm33 cd33 ct33 oc34 kV34 dc34 pm34 cd34 ct34 oc35 kV35 dc35 pm35 cd35 ct35 oc36 kV36 dc36 pm36 cd36 ct36 oc37 kV37 dc37 pm37 cd37 ct37 oc38 kV38 dc38 pm38 cd38 ct38 oc39 kV39 dc39 pm39 cd39 ct39 oc40 kV40 dc40 pm40 cd40 ct40 oc41 kV41 dc41 pm41 cd41 ct41 oc42 kV42 dc42 pm42 cd42 ct42 oc43 kV43 dc43 pm43 cd43 ct43 : Value} {t_mF t_mW t_mR t_lA : Tok}
    (aC : PySem.W.nsIn K mainGlobals "BadValue" = some (some (.ref C)))
    (xL : K.lookup C = some (excClassObj nm q C N bs [.ref RE, .type "ValueError", .type "Exception", .type "BaseException", .type "object"] true sn sub ab col dd m0 m1 m2 m3 m5 "ValueError.__new__"))
    (sa : PySem.W.findIn K (.ref C) "__setattr__" = some (some (.builtin "object.__setattr__")))
    (ga : PySem.W.findIn K (.ref C) "__getattribute__" = some (some (.builtin "BaseException.__getattribute__")))
    (gg : PySem.W.findIn K (.ref C) "__getattr__" = some none)
    (nb : PySem.W.findIn K (.ref C) "name" = some none)
    (a0 : PySem.W.findIn K (.ref C) "__init__" = some (some (.ref f0)))
    (t0 : PySem.W.typeIn K (.ref f0) = some (.type "function"))
    (l0 : K.lookup f0 = some ⟨oc0, od0, .func (PySem.W.fnOf "__init__" "BadValue.__init__" (defArgs sInit) (defBody sInit) (defScope sInit) .none kV0 dc0 pm0 an0 cd0 ct0), sl0⟩)
    (c0 : PySem.W.codeIn K cd0 "BadValue.__init__" = true)
    (k0 : PySem.W.keepIn K (.ref f0) = true)
    (kC : PySem.W.keepIn K (.ref C) = true)
    (eC : PySem.W.subIn K (.ref C) (.type "BaseException") = some true)
    (tC : PySem.W.typeIn K (.ref C) = some (.type "type"))
    (hC : PySem.W.hasDictIn K C = true)
    (iC : PySem.W.isClsIn K C = true)
    (sC : PySem.W.subIn K (.ref C) (.ref C) = some true)
    (a8 : PySem.W.nsIn K mainGlobals "is_between" = some (some (.ref f8)))
    (l8 : K.lookup f8 = some ⟨oc8, od8, .func (PySem.W.fnOf "is_between" "is_between" (defArgs sBetween) (defBody sBetween) (defScope sBetween) .none kV8 dc8 pm8 an8 cd8 ct8), sl8⟩)
    (c8 : PySem.W.codeIn K cd8 "is_between" = true)
    (k8 : PySem.W.keepIn K (.ref f8) = true)
    (a9 : PySem.W.nsIn K mainGlobals "is_widths" = some (some (.ref f9)))
    (l9 : K.lookup f9 = some ⟨oc9, od9, .func (PySem.W.fnOf "is_widths" "is_widths" (defArgs sWidths) (defBody sWidths) (defScope sWidths) .none kV9 dc9 pm9 an9 cd9 ct9), sl9⟩)
    (c9 : PySem.W.codeIn K cd9 "is_widths" = true)
    (k9 : PySem.W.keepIn K (.ref f9) = true)
    (a10 : PySem.W.nsIn K mainGlobals "is_range" = some (some (.ref f10)))
    (l10 : K.lookup f10 = some ⟨oc10, od10, .func (PySem.W.fnOf "is_range" "is_range" (defArgs sRange) (defBody sRange) (defScope sRange) .none kV10 dc10 pm10 an10 cd10 ct10), sl10⟩)
    (c10 : PySem.W.codeIn K cd10 "is_range" = true)
    (k10 : PySem.W.keepIn K (.ref f10) = true)
    (a11 : PySem.W.nsIn K mainGlobals "is_rule" = some (some (.ref f11)))
    (l11 : K.lookup f11 = some ⟨oc11, od11, .func (PySem.W.fnOf "is_rule" "is_rule" (defArgs sRule) (defBody sRule) (defScope sRule) .none kV11 dc11 pm11 an11 cd11 ct11), sl11⟩)
    (c11 : PySem.W.codeIn K cd11 "is_rule" = true)
    (k11 : PySem.W.keepIn K (.ref f11) = true)
    (a12 : PySem.W.nsIn K mainGlobals "is_list" = some (some (.ref f12)))
    (l12 : K.lookup f12 = some ⟨oc12, od12, .func (PySem.W.fnOf "is_list" "is_list" (defArgs sIsList) (defBody sIsList) (defScope sIsList) .none kV12 dc12 pm12 an12 cd12 ct12), sl12⟩)
    (c12 : PySem.W.codeIn K cd12 "is_list" = true)
    (k12 : PySem.W.keepIn K (.ref f12) = true)
    (a13 : PySem.W.nsIn K mainGlobals "is_case" = some (some (.ref f13)))
    (l13 : K.lookup f13 = some ⟨oc13, od13, .func (PySem.W.fnOf "is_case" "is_case" (defArgs sIsCase) (defBody sIsCase) (defScope sIsCase) .none kV13 dc13 pm13 an13 cd13 ct13), sl13⟩)
    (c13 : PySem.W.codeIn K cd13 "is_case" = true)
    (k13 : PySem.W.keepIn K (.ref f13) = true)
    (a14 : PySem.W.nsIn K mainGlobals "is_number" = some (some (.ref f14)))
    (l14 : K.lookup f14 = some ⟨oc14, od14, .func (PySem.W.fnOf "is_number" "is_number" (defArgs sIsNumber) (defBody sIsNumber) (defScope sIsNumber) .none kV14 dc14 pm14 an14 cd14 ct14), sl14⟩)
    (c14 : PySem.W.codeIn K cd14 "is_number" = true)
    (k14 : PySem.W.keepIn K (.ref f14) = true)
    (a15 : PySem.W.nsIn K mainGlobals "is_set" = some (some (.ref f15)))
    (l15 : K.lookup f15 = some ⟨oc15, od15, .func (PySem.W.fnOf "is_set" "is_set" (defArgs sIsSet) (defBody sIsSet) (defScope sIsSet) .none kV15 dc15 pm15 an15 cd15 ct15), sl15⟩)
    (c15 : PySem.W.codeIn K cd15 "is_set" = true)
    (k15 : PySem.W.keepIn K (.ref f15) = true)
    (a16 : PySem.W.nsIn K mainGlobals "check_list" = some (some (.ref f16)))
    (l16 : K.lookup f16 = some ⟨oc16, od16, .func (PySem.W.fnOf "check_list" "check_list" (defArgs sChkL) (defBody sChkL) (defScope sChkL) .none kV16 dc16 pm16 an16 cd16 ct16), sl16⟩)
    (c16 : PySem.W.codeIn K cd16 "check_list" = true)
    (k16 : PySem.W.keepIn K (.ref f16) = true)
    (a17 : PySem.W.nsIn K mainGlobals "check_case" = some (some (.ref f17)))
    (l17 : K.lookup f17 = some ⟨oc17, od17, .func (PySem.W.fnOf "check_case" "check_case" (defArgs sChkC) (defBody sChkC) (defScope sChkC) .none kV17 dc17 pm17 an17 cd17 ct17), sl17⟩)
    (c17 : PySem.W.codeIn K cd17 "check_case" = true)
    (k17 : PySem.W.keepIn K (.ref f17) = true)
    (a18 : PySem.W.nsIn K mainGlobals "cases_of" = some (some (.ref f18)))
    (l18 : K.lookup f18 = some ⟨oc18, od18, .func (PySem.W.fnOf "cases_of" "cases_of" (defArgs sCases) (defBody sCases) (defScope sCases) .none kV18 dc18 pm18 an18 cd18 ct18), sl18⟩)
    (c18 : PySem.W.codeIn K cd18 "cases_of" = true)
    (k18 : PySem.W.keepIn K (.ref f18) = true)
    (a19 : PySem.W.nsIn K mainGlobals "matches_in" = some (some (.ref f19)))
    (l19 : K.lookup f19 = some ⟨oc19, od19, .func (PySem.W.fnOf "matches_in" "matches_in" (defArgs sMatch) (defBody sMatch) (defScope sMatch) .none kV19 dc19 pm19 an19 cd19 ct19), sl19⟩)
    (c19 : PySem.W.codeIn K cd19 "matches_in" = true)
    (k19 : PySem.W.keepIn K (.ref f19) = true)
    (a20 : PySem.W.nsIn K mainGlobals "regions" = some (some (.ref f20)))
    (l20 : K.lookup f20 = some ⟨oc20, od20, .func (PySem.W.fnOf "regions" "regions" (defArgs sRegions) (defBody sRegions) (defScope sRegions) .none kV20 dc20 pm20 an20 cd20 ct20), sl20⟩)
    (c20 : PySem.W.codeIn K cd20 "regions" = true)
    (k20 : PySem.W.keepIn K (.ref f20) = true)
    (a22 : PySem.W.nsIn K mainGlobals "does_fit" = some (some (.ref f22)))
    (l22 : K.lookup f22 = some ⟨oc22, od22, .func (PySem.W.fnOf "does_fit" "does_fit" (defArgs sFit) (defBody sFit) (defScope sFit) .none kV22 dc22 pm22 an22 cd22 ct22), sl22⟩)
    (c22 : PySem.W.codeIn K cd22 "does_fit" = true)
    (k22 : PySem.W.keepIn K (.ref f22) = true)
    (a23 : PySem.W.nsIn K mainGlobals "fitting" = some (some (.ref f23)))
    (l23 : K.lookup f23 = some ⟨oc23, od23, .func (PySem.W.fnOf "fitting" "fitting" (defArgs sFitting) (defBody sFitting) (defScope sFitting) .none kV23 dc23 pm23 an23 cd23 ct23), sl23⟩)
    (c23 : PySem.W.codeIn K cd23 "fitting" = true)
    (k23 : PySem.W.keepIn K (.ref f23) = true)
    (a24 : PySem.W.nsIn K mainGlobals "check_sets" = some (some (.ref f24)))
    (l24 : K.lookup f24 = some ⟨oc24, od24, .func (PySem.W.fnOf "check_sets" "check_sets" (defArgs sChkS) (defBody sChkS) (defScope sChkS) .none kV24 dc24 pm24 an24 cd24 ct24), sl24⟩)
    (c24 : PySem.W.codeIn K cd24 "check_sets" = true)
    (k24 : PySem.W.keepIn K (.ref f24) = true)
    (a25 : PySem.W.nsIn K mainGlobals "count_cases" = some (some (.ref f25)))
    (l25 : K.lookup f25 = some ⟨oc25, od25, .func (PySem.W.fnOf "count_cases" "count_cases" (defArgs sCount) (defBody sCount) (defScope sCount) .none kV25 dc25 pm25 an25 cd25 ct25), sl25⟩)
    (c25 : PySem.W.codeIn K cd25 "count_cases" = true)
    (k25 : PySem.W.keepIn K (.ref f25) = true)
    (a26 : PySem.W.nsIn K mainGlobals "nth_case" = some (some (.ref f26)))
    (l26 : K.lookup f26 = some ⟨oc26, od26, .func (PySem.W.fnOf "nth_case" "nth_case" (defArgs sNth) (defBody sNth) (defScope sNth) .none kV26 dc26 pm26 an26 cd26 ct26), sl26⟩)
    (c26 : PySem.W.codeIn K cd26 "nth_case" = true)
    (k26 : PySem.W.keepIn K (.ref f26) = true)
    (a27 : PySem.W.nsIn K mainGlobals "index_of_case" = some (some (.ref f27)))
    (l27 : K.lookup f27 = some ⟨oc27, od27, .func (PySem.W.fnOf "index_of_case" "index_of_case" (defArgs sIdx) (defBody sIdx) (defScope sIdx) .none kV27 dc27 pm27 an27 cd27 ct27), sl27⟩)
    (c27 : PySem.W.codeIn K cd27 "index_of_case" = true)
    (k27 : PySem.W.keepIn K (.ref f27) = true)
    (a29 : PySem.W.nsIn K mainGlobals "_law_stream" = some (some (.ref f29)))
    (l29 : K.lookup f29 = some ⟨oc29, od29, .func (PySem.W.fnOf "_law_stream" "_law_stream" (defArgs sStream) (defBody sStream) (defScope sStream) .none kV29 dc29 pm29 an29 cd29 ct29), sl29⟩)
    (c29 : PySem.W.codeIn K cd29 "_law_stream" = true)
    (k29 : PySem.W.keepIn K (.ref f29) = true)
    (a30 : PySem.W.nsIn K mainGlobals "_law_next" = some (some (.ref f30)))
    (l30 : K.lookup f30 = some ⟨oc30, od30, .func (PySem.W.fnOf "_law_next" "_law_next" (defArgs sNext) (defBody sNext) (defScope sNext) .none kV30 dc30 pm30 an30 cd30 ct30), sl30⟩)
    (c30 : PySem.W.codeIn K cd30 "_law_next" = true)
    (k30 : PySem.W.keepIn K (.ref f30) = true)
    (a31 : PySem.W.nsIn K mainGlobals "_law_is_integer" = some (some (.ref f31)))
    (l31 : K.lookup f31 = some ⟨oc31, od31, .func (PySem.W.fnOf "_law_is_integer" "_law_is_integer" (defArgs sIsInt) (defBody sIsInt) (defScope sIsInt) .none kV31 dc31 pm31 an31 cd31 ct31), sl31⟩)
    (c31 : PySem.W.codeIn K cd31 "_law_is_integer" = true)
    (k31 : PySem.W.keepIn K (.ref f31) = true)
    (a32 : PySem.W.nsIn K mainGlobals "_law_equal" = some (some (.ref f32)))
    (l32 : K.lookup f32 = some ⟨oc32, od32, .func (PySem.W.fnOf "_law_equal" "_law_equal" (defArgs sEqual) (defBody sEqual) (defScope sEqual) .none kV32 dc32 pm32 an32 cd32 ct32), sl32⟩)
    (c32 : PySem.W.codeIn K cd32 "_law_equal" = true)
    (k32 : PySem.W.keepIn K (.ref f32) = true)
    (a33 : PySem.W.nsIn K mainGlobals "_law_pick" = some (some (.ref f33)))
    (l33 : K.lookup f33 = some ⟨oc33, od33, .func (PySem.W.fnOf "_law_pick" "_law_pick" (defArgs sPick) (defBody sPick) (defScope sPick) .none kV33 dc33 pm33 an33 cd33 ct33), sl33⟩)
    (c33 : PySem.W.codeIn K cd33 "_law_pick" = true)
    (k33 : PySem.W.keepIn K (.ref f33) = true)
    (a34 : PySem.W.nsIn K mainGlobals "_law_range" = some (some (.ref f34)))
    (l34 : K.lookup f34 = some ⟨oc34, od34, .func (PySem.W.fnOf "_law_range" "_law_range" (defArgs sRng) (defBody sRng) (defScope sRng) .none kV34 dc34 pm34 an34 cd34 ct34), sl34⟩)
    (c34 : PySem.W.codeIn K cd34 "_law_range" = true)
    (k34 : PySem.W.keepIn K (.ref f34) = true)
    (a35 : PySem.W.nsIn K mainGlobals "_law_list" = some (some (.ref f35)))
    (l35 : K.lookup f35 = some ⟨oc35, od35, .func (PySem.W.fnOf "_law_list" "_law_list" (defArgs sLst) (defBody sLst) (defScope sLst) .none kV35 dc35 pm35 an35 cd35 ct35), sl35⟩)
    (c35 : PySem.W.codeIn K cd35 "_law_list" = true)
    (k35 : PySem.W.keepIn K (.ref f35) = true)
    (a36 : PySem.W.nsIn K mainGlobals "_law_cases" = some (some (.ref f36)))
    (l36 : K.lookup f36 = some ⟨oc36, od36, .func (PySem.W.fnOf "_law_cases" "_law_cases" (defArgs sLCases) (defBody sLCases) (defScope sLCases) .none kV36 dc36 pm36 an36 cd36 ct36), sl36⟩)
    (c36 : PySem.W.codeIn K cd36 "_law_cases" = true)
    (k36 : PySem.W.keepIn K (.ref f36) = true)
    (a37 : PySem.W.nsIn K mainGlobals "_law_matches" = some (some (.ref f37)))
    (l37 : K.lookup f37 = some ⟨oc37, od37, .func (PySem.W.fnOf "_law_matches" "_law_matches" (defArgs sLMatch) (defBody sLMatch) (defScope sLMatch) .none kV37 dc37 pm37 an37 cd37 ct37), sl37⟩)
    (c37 : PySem.W.codeIn K cd37 "_law_matches" = true)
    (k37 : PySem.W.keepIn K (.ref f37) = true)
    (a38 : PySem.W.nsIn K mainGlobals "_law_some" = some (some (.ref f38)))
    (l38 : K.lookup f38 = some ⟨oc38, od38, .func (PySem.W.fnOf "_law_some" "_law_some" (defArgs sSome) (defBody sSome) (defScope sSome) .none kV38 dc38 pm38 an38 cd38 ct38), sl38⟩)
    (c38 : PySem.W.codeIn K cd38 "_law_some" = true)
    (k38 : PySem.W.keepIn K (.ref f38) = true)
    (a39 : PySem.W.nsIn K mainGlobals "_law_told" = some (some (.ref f39)))
    (l39 : K.lookup f39 = some ⟨oc39, od39, .func (PySem.W.fnOf "_law_told" "_law_told" (defArgs sTold) (defBody sTold) (defScope sTold) .none kV39 dc39 pm39 an39 cd39 ct39), sl39⟩)
    (c39 : PySem.W.codeIn K cd39 "_law_told" = true)
    (k39 : PySem.W.keepIn K (.ref f39) = true)
    (a40 : PySem.W.nsIn K mainGlobals "_law_name" = some (some (.ref f40)))
    (l40 : K.lookup f40 = some ⟨oc40, od40, .func (PySem.W.fnOf "_law_name" "_law_name" (defArgs sName) (defBody sName) (defScope sName) .none kV40 dc40 pm40 an40 cd40 ct40), sl40⟩)
    (c40 : PySem.W.codeIn K cd40 "_law_name" = true)
    (k40 : PySem.W.keepIn K (.ref f40) = true)
    (a41 : PySem.W.nsIn K mainGlobals "_law_refuses" = some (some (.ref f41)))
    (l41 : K.lookup f41 = some ⟨oc41, od41, .func (PySem.W.fnOf "_law_refuses" "_law_refuses" (defArgs sRef) (defBody sRef) (defScope sRef) .none kV41 dc41 pm41 an41 cd41 ct41), sl41⟩)
    (c41 : PySem.W.codeIn K cd41 "_law_refuses" = true)
    (k41 : PySem.W.keepIn K (.ref f41) = true)
    (a42 : PySem.W.nsIn K mainGlobals "_law_agrees" = some (some (.ref f42)))
    (l42 : K.lookup f42 = some ⟨oc42, od42, .func (PySem.W.fnOf "_law_agrees" "_law_agrees" (defArgs sAgr) (defBody sAgr) (defScope sAgr) .none kV42 dc42 pm42 an42 cd42 ct42), sl42⟩)
    (c42 : PySem.W.codeIn K cd42 "_law_agrees" = true)
    (k42 : PySem.W.keepIn K (.ref f42) = true)
    (a43 : PySem.W.nsIn K mainGlobals "law" = some (some (.ref f43)))
    (l43 : K.lookup f43 = some ⟨oc43, od43, .func (PySem.W.fnOf "law" "law" (defArgs sLaw) (defBody sLaw) (defScope sLaw) .none kV43 dc43 pm43 an43 cd43 ct43), sl43⟩)
    (c43 : PySem.W.codeIn K cd43 "law" = true)
    (k43 : PySem.W.keepIn K (.ref f43) = true)
    (g_mF : PySem.W.nsIn K mainGlobals "MOST_FIELDS" = some (some (.int 3 t_mF)))
    (g_mW : PySem.W.nsIn K mainGlobals "MOST_WIDTH" = some (some (.int 8 t_mW)))
    (g_mR : PySem.W.nsIn K mainGlobals "MOST_RULES" = some (some (.int 7 t_mR)))
    (g_lA : PySem.W.nsIn K mainGlobals "LAST_ACTION" = some (some (.int 5 t_lA)))
    (z_isinstance : PySem.W.nsIn K mainGlobals "isinstance" = some none)
    (z_len : PySem.W.nsIn K mainGlobals "len" = some none)
    (z_all : PySem.W.nsIn K mainGlobals "all" = some none)
    (z_any : PySem.W.nsIn K mainGlobals "any" = some none)
    (z_sum : PySem.W.nsIn K mainGlobals "sum" = some none)
    (z_sorted : PySem.W.nsIn K mainGlobals "sorted" = some none)
    (z_tuple : PySem.W.nsIn K mainGlobals "tuple" = some none)
    (z_list : PySem.W.nsIn K mainGlobals "list" = some none)
    (z_range : PySem.W.nsIn K mainGlobals "range" = some none)
    (z_enumerate : PySem.W.nsIn K mainGlobals "enumerate" = some none)
    (z_abs : PySem.W.nsIn K mainGlobals "abs" = some none)
    (z_int : PySem.W.nsIn K mainGlobals "int" = some none)
    (z_bool : PySem.W.nsIn K mainGlobals "bool" = some none)
    (z_str : PySem.W.nsIn K mainGlobals "str" = some none)
    : ∃ fd : FuncData, (∀ (s : Shared) (v : Value), BindsTo s fd ⟨[v], []⟩ [("_law_script", v)]) ∧ ∀ base : Heap, K.In base → base.Ns mainGlobals mg → FnOk l.prog w K mg base CX0 11 fa fd ["_law_script"] (spLaw K) := by
  have e := hfa.symm.trans (PySem.W.mg_of X G a43)
  cases e
  have T : Txt K mg := ⟨PySem.W.mg_none_of X G z_isinstance, PySem.W.mg_none_of X G z_len, PySem.W.mg_none_of X G z_all, PySem.W.mg_none_of X G z_any, PySem.W.mg_none_of X G z_sum, PySem.W.mg_none_of X G z_sorted, PySem.W.mg_none_of X G z_tuple, PySem.W.mg_none_of X G z_list, PySem.W.mg_none_of X G z_range, PySem.W.mg_none_of X G z_enumerate, PySem.W.mg_none_of X G z_abs, PySem.W.mg_none_of X G z_int, PySem.W.mg_none_of X G z_bool, PySem.W.mg_none_of X G z_str, ⟨_, PySem.W.mg_of X G g_mF⟩, ⟨_, PySem.W.mg_of X G g_mW⟩, ⟨_, PySem.W.mg_of X G g_mR⟩, ⟨_, PySem.W.mg_of X G g_lA⟩⟩
  have F0 := fun_mk (st := sInit) l0 c0 k0
  have b0 := F0.binds (ps := ["self", "name"]) fun _ _ _ _ _ _ us hl => match us, hl with | [_, _], _ => rfl
  have F8 := fun_mk (st := sBetween) l8 c8 k8
  have b8 := F8.binds (ps := ["value", "low", "high"]) fun _ _ _ _ _ _ us hl => match us, hl with | [_, _, _], _ => rfl
  have m8 := PySem.W.mg_of X G a8
  have F9 := fun_mk (st := sWidths) l9 c9 k9
  have b9 := F9.binds (ps := ["value"]) fun _ _ _ _ _ _ us hl => match us, hl with | [_], _ => rfl
  have m9 := PySem.W.mg_of X G a9
  have F10 := fun_mk (st := sRange) l10 c10 k10
  have b10 := F10.binds (ps := ["value", "width"]) fun _ _ _ _ _ _ us hl => match us, hl with | [_, _], _ => rfl
  have m10 := PySem.W.mg_of X G a10
  have F11 := fun_mk (st := sRule) l11 c11 k11
  have b11 := F11.binds (ps := ["value", "widths"]) fun _ _ _ _ _ _ us hl => match us, hl with | [_, _], _ => rfl
  have m11 := PySem.W.mg_of X G a11
  have F12 := fun_mk (st := sIsList) l12 c12 k12
  have b12 := F12.binds (ps := ["value"]) fun _ _ _ _ _ _ us hl => match us, hl with | [_], _ => rfl
  have m12 := PySem.W.mg_of X G a12
  have F13 := fun_mk (st := sIsCase) l13 c13 k13
  have b13 := F13.binds (ps := ["listed", "value"]) fun _ _ _ _ _ _ us hl => match us, hl with | [_, _], _ => rfl
  have m13 := PySem.W.mg_of X G a13
  have F14 := fun_mk (st := sIsNumber) l14 c14 k14
  have b14 := F14.binds (ps := ["listed", "value"]) fun _ _ _ _ _ _ us hl => match us, hl with | [_, _], _ => rfl
  have m14 := PySem.W.mg_of X G a14
  have F15 := fun_mk (st := sIsSet) l15 c15 k15
  have b15 := F15.binds (ps := ["listed", "value"]) fun _ _ _ _ _ _ us hl => match us, hl with | [_, _], _ => rfl
  have m15 := PySem.W.mg_of X G a15
  have F16 := fun_mk (st := sChkL) l16 c16 k16
  have b16 := F16.binds (ps := ["listed", "name"]) fun _ _ _ _ _ _ us hl => match us, hl with | [_, _], _ => rfl
  have m16 := PySem.W.mg_of X G a16
  have F17 := fun_mk (st := sChkC) l17 c17 k17
  have b17 := F17.binds (ps := ["listed", "case"]) fun _ _ _ _ _ _ us hl => match us, hl with | [_, _], _ => rfl
  have m17 := PySem.W.mg_of X G a17
  have F18 := fun_mk (st := sCases) l18 c18 k18
  have b18 := F18.binds (ps := ["widths"]) fun _ _ _ _ _ _ us hl => match us, hl with | [_], _ => rfl
  have m18 := PySem.W.mg_of X G a18
  have F19 := fun_mk (st := sMatch) l19 c19 k19
  have b19 := F19.binds (ps := ["listed", "number", "case"]) fun _ _ _ _ _ _ us hl => match us, hl with | [_, _, _], _ => rfl
  have m19 := PySem.W.mg_of X G a19
  have F20 := fun_mk (st := sRegions) l20 c20 k20
  have b20 := F20.binds (ps := ["listed"]) fun _ _ _ _ _ _ us hl => match us, hl with | [_], _ => rfl
  have m20 := PySem.W.mg_of X G a20
  have F22 := fun_mk (st := sFit) l22 c22 k22
  have b22 := F22.binds (ps := ["listed", "chosen", "avoided", "case"]) fun _ _ _ _ _ _ us hl => match us, hl with | [_, _, _, _], _ => rfl
  have m22 := PySem.W.mg_of X G a22
  have F23 := fun_mk (st := sFitting) l23 c23 k23
  have b23 := F23.binds (ps := ["listed", "chosen", "avoided"]) fun _ _ _ _ _ _ us hl => match us, hl with | [_, _, _], _ => rfl
  have m23 := PySem.W.mg_of X G a23
  have F24 := fun_mk (st := sChkS) l24 c24 k24
  have b24 := F24.binds (ps := ["listed", "chosen", "avoided"]) fun _ _ _ _ _ _ us hl => match us, hl with | [_, _, _], _ => rfl
  have m24 := PySem.W.mg_of X G a24
  have F25 := fun_mk (st := sCount) l25 c25 k25
  have b25 := F25.binds (ps := ["listed", "chosen", "avoided"]) fun _ _ _ _ _ _ us hl => match us, hl with | [_, _, _], _ => rfl
  have m25 := PySem.W.mg_of X G a25
  have F26 := fun_mk (st := sNth) l26 c26 k26
  have b26 := F26.binds (ps := ["listed", "chosen", "avoided", "index"]) fun _ _ _ _ _ _ us hl => match us, hl with | [_, _, _, _], _ => rfl
  have m26 := PySem.W.mg_of X G a26
  have F27 := fun_mk (st := sIdx) l27 c27 k27
  have b27 := F27.binds (ps := ["listed", "chosen", "avoided", "case"]) fun _ _ _ _ _ _ us hl => match us, hl with | [_, _, _, _], _ => rfl
  have m27 := PySem.W.mg_of X G a27
  have F29 := fun_mk (st := sStream) l29 c29 k29
  have b29 := F29.binds (ps := ["_law_script"]) fun _ _ _ _ _ _ us hl => match us, hl with | [_], _ => rfl
  have m29 := PySem.W.mg_of X G a29
  have F30 := fun_mk (st := sNext) l30 c30 k30
  have b30 := F30.binds (ps := ["_law_stream_here", "_law_many"]) fun _ _ _ _ _ _ us hl => match us, hl with | [_, _], _ => rfl
  have m30 := PySem.W.mg_of X G a30
  have F31 := fun_mk (st := sIsInt) l31 c31 k31
  have b31 := F31.binds (ps := ["_law_actual"]) fun _ _ _ _ _ _ us hl => match us, hl with | [_], _ => rfl
  have m31 := PySem.W.mg_of X G a31
  have F32 := fun_mk (st := sEqual) l32 c32 k32
  have b32 := F32.binds (ps := ["_law_actual", "_law_due"]) fun _ _ _ _ _ _ us hl => match us, hl with | [_, _], _ => rfl
  have m32 := PySem.W.mg_of X G a32
  have F33 := fun_mk (st := sPick) l33 c33 k33
  have b33 := F33.binds (ps := ["_law_stream_here", "_law_rows"]) fun _ _ _ _ _ _ us hl => match us, hl with | [_, _], _ => rfl
  have m33 := PySem.W.mg_of X G a33
  have F34 := fun_mk (st := sRng) l34 c34 k34
  have b34 := F34.binds (ps := ["_law_stream_here", "_law_width"]) fun _ _ _ _ _ _ us hl => match us, hl with | [_, _], _ => rfl
  have m34 := PySem.W.mg_of X G a34
  have F35 := fun_mk (st := sLst) l35 c35 k35
  have b35 := F35.binds (ps := ["_law_stream_here", "_law_fields", "_law_most", "_law_rules"]) fun _ _ _ _ _ _ us hl => match us, hl with | [_, _, _, _], _ => rfl
  have m35 := PySem.W.mg_of X G a35
  have F36 := fun_mk (st := sLCases) l36 c36 k36
  have b36 := F36.binds (ps := ["_law_widths"]) fun _ _ _ _ _ _ us hl => match us, hl with | [_], _ => rfl
  have m36 := PySem.W.mg_of X G a36
  have F37 := fun_mk (st := sLMatch) l37 c37 k37
  have b37 := F37.binds (ps := ["_law_listed", "_law_number", "_law_case"]) fun _ _ _ _ _ _ us hl => match us, hl with | [_, _, _], _ => rfl
  have m37 := PySem.W.mg_of X G a37
  have F38 := fun_mk (st := sSome) l38 c38 k38
  have b38 := F38.binds (ps := ["_law_stream_here", "_law_many"]) fun _ _ _ _ _ _ us hl => match us, hl with | [_, _], _ => rfl
  have m38 := PySem.W.mg_of X G a38
  have F39 := fun_mk (st := sTold) l39 c39 k39
  have b39 := F39.binds (ps := ["_law_listed", "_law_chosen", "_law_avoided", "_law_index"]) fun _ _ _ _ _ _ us hl => match us, hl with | [_, _, _, _], _ => rfl
  have m39 := PySem.W.mg_of X G a39
  have F40 := fun_mk (st := sName) l40 c40 k40
  have b40 := F40.binds (ps := ["_law_which", "_law_parts"]) fun _ _ _ _ _ _ us hl => match us, hl with | [_, _], _ => rfl
  have m40 := PySem.W.mg_of X G a40
  have F41 := fun_mk (st := sRef) l41 c41 k41
  have b41 := F41.binds (ps := ["_law_stream_here", "_law_listed", "_law_chosen", "_law_avoided", "_law_due", "_law_case"]) fun _ _ _ _ _ _ us hl => match us, hl with | [_, _, _, _, _, _], _ => rfl
  have m41 := PySem.W.mg_of X G a41
  have F42 := fun_mk (st := sAgr) l42 c42 k42
  have b42 := F42.binds (ps := ["_law_stream_here", "_law_listed"]) fun _ _ _ _ _ _ us hl => match us, hl with | [_, _], _ => rfl
  have m42 := PySem.W.mg_of X G a42
  have F43 := fun_mk (st := sLaw) l43 c43 k43
  have TO : OexC K C := ⟨⟨nm, q, N, bs, _, sn, sub, ab, col, dd, m0, m1, m2, m3, m5, xL, by rfl⟩, sa, eC, tC, kC⟩
  refine ⟨PySem.W.fnOf "law" "law" (defArgs sLaw) (defBody sLaw) (defScope sLaw) .none kV43 dc43 pm43 an43 cd43 ct43, fun s v => .of_eq rfl, fun base _ _ => ?_⟩
  have B : Bad l.prog w K mg base C := ⟨PySem.W.mg_of X G aC, TO, ⟨ga, gg, eC, hC⟩, nb, exm_self eC iC tC sC, f0, _, a0, t0, d_init TO nb F0, b0⟩
  have D8 := d_between (P := l.prog) (w := w) (base := base) T F8 m8 b8
  have D9 := d_widths (P := l.prog) (w := w) (base := base) T D8 F9 m9 b9
  have D10 := d_range (P := l.prog) (w := w) (base := base) T D8 F10 m10 b10
  have D11 := d_rule (P := l.prog) (w := w) (base := base) T D8 D10 F11 m11 b11
  have D12 := d_list (P := l.prog) (w := w) (base := base) T D8 D9 D11 F12 m12 b12
  have D13 := d_case (P := l.prog) (w := w) (base := base) T D8 F13 m13 b13
  have D14 := d_number (P := l.prog) (w := w) (base := base) T D8 F14 m14 b14
  have D15 := d_set (P := l.prog) (w := w) (base := base) T D14 F15 m15 b15
  have D16 := d_chkL (P := l.prog) (w := w) (base := base) T B D12 F16 m16 b16
  have D17 := d_chkC (P := l.prog) (w := w) (base := base) T B D13 F17 m17 b17
  have D18 := d_cases (P := l.prog) (w := w) (base := base) T F18 m18 b18
  have D19 := d_match (P := l.prog) (w := w) (base := base) T F19 m19 b19
  have D20 := d_regions (P := l.prog) (w := w) (base := base) T D16 D18 D19 F20 m20 b20
  have D22 := d_fit (P := l.prog) (w := w) (base := base) T D19 F22 m22 b22
  have D23 := d_fitting (P := l.prog) (w := w) (base := base) T D22 D18 F23 m23 b23
  have D24 := d_chkS (P := l.prog) (w := w) (base := base) T B D16 D15 F24 m24 b24
  have D25 := d_count (P := l.prog) (w := w) (base := base) T D24 D23 F25 m25 b25
  have D26 := d_nth (P := l.prog) (w := w) (base := base) T B D24 D23 D8 F26 m26 b26
  have D27 := d_idx (P := l.prog) (w := w) (base := base) T B D24 D23 D17 D22 F27 m27 b27
  have D30 := d_next (P := l.prog) (w := w) (base := base) T F30 m30 b30
  have D31 := d_isint (P := l.prog) (w := w) (base := base) T F31 m31 b31
  have D32a := d_equal (P := l.prog) (w := w) (base := base) (C := fun _ => False) T D31 (Nat.le_refl 1) (fun ⟨_, z⟩ => z.elim) F32 m32 b32
  have D32b := d_equal (P := l.prog) (w := w) (base := base) T D31 (by decide) (fun _ => D32a) F32 m32 b32
  have D32 := d_equal (P := l.prog) (w := w) (base := base) T D31 (by decide) (fun _ => D32b) F32 m32 b32
  have D33 := d_pick (P := l.prog) (w := w) (base := base) T D30 F33 m33 b33
  have D34 := d_rng (P := l.prog) (w := w) (base := base) T D30 F34 m34 b34
  have D35 := d_lst (P := l.prog) (w := w) (base := base) T D30 D34 F35 m35 b35
  have D36 := d_lcases (P := l.prog) (w := w) (base := base) T F36 m36 b36
  have D37 := d_lmatch (P := l.prog) (w := w) (base := base) T F37 m37 b37
  have D38 := d_some (P := l.prog) (w := w) (base := base) T D30 F38 m38 b38
  have D39 := d_told (P := l.prog) (w := w) (base := base) T B D26 F39 m39 b39
  have D40 := d_name (P := l.prog) (w := w) (base := base) T B D25 D26 D27 F40 m40 b40
  have D41 := d_ref (P := l.prog) (w := w) (base := base) T D33 D40 F41 m41 b41
  have D42 := d_agr (P := l.prog) (w := w) (base := base) T D30 D33 D38 D36 D37 D32 D25 D26 D27 D39 D20 D41 F42 m42 b42
  exact ok_law T F29 m29 b29 D35 D42 F43
theorem walk {l : PySem.W.OpenLaw} {q : Program} {loose : List Str} {XP : (Str → Option Value) → Heap → Prop} {YP : World → Heap → Prop} {d : DefRec} {K : Params → PySem.W.Frag} (hn : l.most = some 63) (hdf : d.params.defaults = [])
    (hY : ∀ (w : World) (h : Heap), YP w h → (K w.params).In h)
    (F : ∀ (w : World) (mg : Str → Option Value) (fa : Addr) (h : Heap), (K w.params).In h → h.Ns mainGlobals mg → mg d.name = some (.ref fa) →
      ∃ fd : FuncData, (∀ (s : Shared) (u : Value), BindsTo s fd ⟨[u], []⟩ [("_law_script", u)]) ∧ ∀ base : Heap, (K w.params).In base → base.Ns mainGlobals mg → FnOk l.prog w (K w.params) mg base CX0 11 fa fd ["_law_script"] (spLaw (K w.params))) :
    PySem.W.WalkO q loose XP YP l.row.toRowW d [] (fun f vs => PySem.call f vs) :=
  L2.walk_of (n := 63) (k := 11) (x := "_law_script") (CX := fun _ => CX0) (sp := fun w => spLaw (K w.params)) hn (by decide) hdf ⟨rfl, by decide, by decide⟩ hY F (fun _ _ a ns hl _ hS => ⟨a, ns, rfl, hS, hl, fun _ => rfl⟩) fun _ _ _ _ _ z => z
end
end Fc
open PySem PySem.W PyProof.Rows in
set_option maxRecDepth 100000 in
set_option maxHeartbeats 0 in
theorem PySem.Challenge.cw_rulerows_k08_whole_fitting_cases_holds : PySem.Challenge.rw_rulerows_k08_whole_fitting_cases.Holds := by
  w_on; o_law; k_head; (case hw => w_witness2)
  k_fill
  refine Fc.walk (l := PySem.Challenge.rw_rulerows_k08_whole_fitting_cases) rfl rfl (fun w h Y => PySem.W.kIn_of Y) ?F
  case F =>
    intro w mg fa h KX G hmg
    refine' Fc.all_mk KX G hmg ?aC ?xL ?sa ?ga ?gg ?nb ?a0 ?t0 ?l0 ?c0 ?k0 ?kC ?eC ?tC ?hC ?iC ?sC ?a8 ?l8 ?c8 ?k8 ?a9 ?l9 ?c9 ?k9 ?a10 ?l10 ?c10 ?k10 ?a11 ?l11 ?c11 ?k11 ?a12 ?l12 ?c12 ?k12 ?a13 ?l13 ?c13 ?k13 ?a14 ?l14 ?c14 ?k14 ?a15 ?l15 ?c15 ?k15 ?a16 ?l16 ?c16 ?k16 ?a17 ?l17 ?c17 ?k17 ?a18 ?l18 ?c18 ?k18 ?a19 ?l19 ?c19 ?k19 ?a20 ?l20 ?c20 ?k20 ?a22 ?l22 ?c22 ?k22 ?a23 ?l23 ?c23 ?k23 ?a24 ?l24 ?c24 ?k24 ?a25 ?l25 ?c25 ?k25 ?a26 ?l26 ?c26 ?k26 ?a27 ?l27 ?c27 ?k27 ?a29 ?l29 ?c29 ?k29 ?a30 ?l30 ?c30 ?k30 ?a31 ?l31 ?c31 ?k31 ?a32 ?l32 ?c32 ?k32 ?a33 ?l33 ?c33 ?k33 ?a34 ?l34 ?c34 ?k34 ?a35 ?l35 ?c35 ?k35 ?a36 ?l36 ?c36 ?k36 ?a37 ?l37 ?c37 ?k37 ?a38 ?l38 ?c38 ?k38 ?a39 ?l39 ?c39 ?k39 ?a40 ?l40 ?c40 ?k40 ?a41 ?l41 ?c41 ?k41 ?a42 ?l42 ?c42 ?k42 ?a43 ?l43 ?c43 ?k43 ?g_mF ?g_mW ?g_mR ?g_lA ?z_isinstance ?z_len ?z_all ?z_any ?z_sum ?z_sorted ?z_tuple ?z_list ?z_range ?z_enumerate ?z_abs ?z_int ?z_bool ?z_str
    (case aC => k_is)
    (case xL => k_is)
    (case sa => k_is)
    (case ga => k_is)
    (case gg => k_is)
    (case nb => k_is)
    (case a0 => k_is)
    (case t0 => k_is)
    (case l0 => k_is)
    (case c0 => k_is)
    (case k0 => k_is)
    (case kC => k_is)
    (case eC => k_is)
    (case tC => k_is)
    (case hC => k_is)
    (case iC => k_is)
    (case sC => first | rfl | k_is)
    (case a8 => k_is)
    (case l8 => k_is)
    (case c8 => k_is)
    (case k8 => k_is)
    (case a9 => k_is)
    (case l9 => k_is)
    (case c9 => k_is)
    (case k9 => k_is)
    (case a10 => k_is)
    (case l10 => k_is)
    (case c10 => k_is)
    (case k10 => k_is)
    (case a11 => k_is)
    (case l11 => k_is)
    (case c11 => k_is)
    (case k11 => k_is)
    (case a12 => k_is)
    (case l12 => k_is)
    (case c12 => k_is)
    (case k12 => k_is)
    (case a13 => k_is)
    (case l13 => k_is)
    (case c13 => k_is)
    (case k13 => k_is)
    (case a14 => k_is)
    (case l14 => k_is)
    (case c14 => k_is)
    (case k14 => k_is)
    (case a15 => k_is)
    (case l15 => k_is)
    (case c15 => k_is)
    (case k15 => k_is)
    (case a16 => k_is)
    (case l16 => k_is)
    (case c16 => k_is)
    (case k16 => k_is)
    (case a17 => k_is)
    (case l17 => k_is)
    (case c17 => k_is)
    (case k17 => k_is)
    (case a18 => k_is)
    (case l18 => k_is)
    (case c18 => k_is)
    (case k18 => k_is)
    (case a19 => k_is)
    (case l19 => k_is)
    (case c19 => k_is)
    (case k19 => k_is)
    (case a20 => k_is)
    (case l20 => k_is)
    (case c20 => k_is)
    (case k20 => k_is)
    (case a22 => k_is)
    (case l22 => k_is)
    (case c22 => k_is)
    (case k22 => k_is)
    (case a23 => k_is)
    (case l23 => k_is)
    (case c23 => k_is)
    (case k23 => k_is)
    (case a24 => k_is)
    (case l24 => k_is)
    (case c24 => k_is)
    (case k24 => k_is)
    (case a25 => k_is)
    (case l25 => k_is)
    (case c25 => k_is)
    (case k25 => k_is)
    (case a26 => k_is)
    (case l26 => k_is)
    (case c26 => k_is)
    (case k26 => k_is)
    (case a27 => k_is)
    (case l27 => k_is)
    (case c27 => k_is)
    (case k27 => k_is)
    (case a29 => k_is)
    (case l29 => k_is)
    (case c29 => k_is)
    (case k29 => k_is)
    (case a30 => k_is)
    (case l30 => k_is)
    (case c30 => k_is)
    (case k30 => k_is)
    (case a31 => k_is)
    (case l31 => k_is)
    (case c31 => k_is)
    (case k31 => k_is)
    (case a32 => k_is)
    (case l32 => k_is)
    (case c32 => k_is)
    (case k32 => k_is)
    (case a33 => k_is)
    (case l33 => k_is)
    (case c33 => k_is)
    (case k33 => k_is)
    (case a34 => k_is)
    (case l34 => k_is)
    (case c34 => k_is)
    (case k34 => k_is)
    (case a35 => k_is)
    (case l35 => k_is)
    (case c35 => k_is)
    (case k35 => k_is)
    (case a36 => k_is)
    (case l36 => k_is)
    (case c36 => k_is)
    (case k36 => k_is)
    (case a37 => k_is)
    (case l37 => k_is)
    (case c37 => k_is)
    (case k37 => k_is)
    (case a38 => k_is)
    (case l38 => k_is)
    (case c38 => k_is)
    (case k38 => k_is)
    (case a39 => k_is)
    (case l39 => k_is)
    (case c39 => k_is)
    (case k39 => k_is)
    (case a40 => k_is)
    (case l40 => k_is)
    (case c40 => k_is)
    (case k40 => k_is)
    (case a41 => k_is)
    (case l41 => k_is)
    (case c41 => k_is)
    (case k41 => k_is)
    (case a42 => k_is)
    (case l42 => k_is)
    (case c42 => k_is)
    (case k42 => k_is)
    (case a43 => k_is)
    (case l43 => k_is)
    (case c43 => k_is)
    (case k43 => k_is)
    (case g_mF => k_is)
    (case g_mW => k_is)
    (case g_mR => k_is)
    (case g_lA => k_is)
    (case z_isinstance => k_is)
    (case z_len => k_is)
    (case z_all => k_is)
    (case z_any => k_is)
    (case z_sum => k_is)
    (case z_sorted => k_is)
    (case z_tuple => k_is)
    (case z_list => k_is)
    (case z_range => k_is)
    (case z_enumerate => k_is)
    (case z_abs => k_is)
    (case z_int => k_is)
    (case z_bool => k_is)
    (case z_str => k_is)
