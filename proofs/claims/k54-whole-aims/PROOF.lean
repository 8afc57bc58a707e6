import PyProof.Rows.All
import Wide.All
import OpenK.AllK
import Wide.FinOn
import HandS.ForMost
import HandS.Wide
import HandS.Gcd
import HandS.Walk
import HandS.Deep
import HandS.IsInst
import HandS.Conv
import HandS.SortKw
import KE.SortData
import KE.GoesEnum
import PyProof.MinMaxWalk
import PyProof.WalkInts
import KE.KMinKey
import HandS.Defaults
import PySem.Challenge.RW_cushioned_k54_whole_aims_on_great_tables
set_option Elab.async false
set_option linter.all false
set_option maxRecDepth 100000
set_option maxHeartbeats 4000000
/-! D0: data over the abstract heap. G: the part that stands for ever; H: the heap. -/
namespace DL
open PySem PySem.Spec PyProof.Rows L2

theorem sm_new {H : Hp} {p : Addr} {o : HO} (h : H p = none) : Same H (upd H p o) := fun a u e => by
  rw [upd_ne (ne_of_none e h)]
  exact e
theorem sm_mut {H H' : Hp} {p : Addr} {o : HO} (e : Same H H') (h : H p = none) : Same H (upd H' p o) := fun a u ha => by
  rw [upd_ne (ne_of_none ha h)]
  exact e a u ha
theorem sm_rd {H H' : Hp} {a : Addr} {u : HO} (e : Same H H') (h : Rd H a u) : Rd H' a u := by
  rcases h with h | ⟨o, h⟩
  · exact Or.inl (e a _ h)
  · exact Or.inr ⟨o, e a _ h⟩
theorem sm_tup {K : PySem.W.Frag} {H H' : Hp} {a : Addr} {xs : List V} (e : Same H H') (h : SqT K H a xs) : SqT K H' a xs := by
  rcases h with h | h
  · exact Or.inl (sm_rd e h)
  · exact Or.inr h
theorem sm_back {H H' : Hp} {p : Addr} (e : Same H H') (h : H' p = none) : H p = none := by
  cases h1 : H p with
  | none => rfl
  | some o =>
    rw [e p o h1] at h
    cases h

def tupO : HO → Bool
  | .tup _ => true
  | _ => false

/-- (G, H) has grown to (G2, H2): what is new in G2 was no mutable thing of H -/
structure Gr (G H G2 H2 : Hp) : Prop where
  hh : Same H H2
  gg : Same G G2
  gh : Same G2 H2
  nw : ∀ a o, H a = some o → tupO o = false → G a = none → G2 a = none
theorem Gr.refl {G H : Hp} (e : Same G H) : Gr G H G H := ⟨Same.refl _, Same.refl _, e, fun _ _ _ _ h => h⟩
theorem Gr.trans {G H G1 H1 G2 H2 : Hp} (a : Gr G H G1 H1) (b : Gr G1 H1 G2 H2) : Gr G H G2 H2 :=
  ⟨a.hh.trans b.hh, a.gg.trans b.gg, b.gh, fun x o h t g => b.nw x o (a.hh x o h) t (a.nw x o h t g)⟩
/-- the same entry heap throughout -/
theorem Gr.trans0 {G H G1 H1 G2 H2 : Hp} (a : Gr G H G1 H1) (b : Gr G1 H G2 H2) : Gr G H G2 H2 :=
  ⟨b.hh, a.gg.trans b.gg, b.gh, fun x o h t g => b.nw x o h t (a.nw x o h t g)⟩
theorem Gr.new {G H : Hp} {p : Addr} {o : HO} (e : Same G H) (h : H p = none) : Gr G H (upd G p o) (upd H p o) :=
  ⟨sm_new h, sm_new (sm_back e h), fun a u x => by
    by_cases hp : a = p
    · subst hp
      rw [upd_same] at x ⊢
      exact x
    · rw [upd_ne hp] at x ⊢
      exact e a u x, fun a u x _ g => by
    rw [upd_ne (ne_of_none x h)]
    exact g⟩
/-- a new thing that G does not take in -/
theorem Gr.newO {G H : Hp} {p : Addr} {o : HO} (e : Same G H) (h : H p = none) : Gr G H G (upd H p o) :=
  ⟨sm_new h, Same.refl _, e.trans (sm_new h), fun _ _ _ _ g => g⟩

/-! ### data -/
mutual
inductive Rp (K : PySem.W.Frag) (G : Hp) : V → PyData → Prop
  | non : Rp K G .non .none
  | bl (b : Bool) : Rp K G (.bl b) (.bool b)
  | int (i : Int) : Rp K G (.int i) (.int i)
  | str (x : Str) : Rp K G (.str x) (.str x)
  | lst {a : Addr} {xs : List V} {ds : List PyData} : G a = some (.lst xs) → RpA K G xs ds → Rp K G (.ref a) (.list ds)
  | tup {a : Addr} {xs : List V} {ds : List PyData} : SqT K G a xs → RpA K G xs ds → Rp K G (.ref a) (.tuple ds)
inductive RpA (K : PySem.W.Frag) (G : Hp) : List V → List PyData → Prop
  | nil : RpA K G [] []
  | cons {v : V} {vs : List V} {d : PyData} {ds : List PyData} : Rp K G v d → RpA K G vs ds → RpA K G (v :: vs) (d :: ds)
end
variable {K : PySem.W.Frag}
mutual
theorem Rp.mono {G G' : Hp} (e : Same G G') : ∀ (d : PyData) (v : V), Rp K G v d → Rp K G' v d
  | .none, _, h => by cases h; exact .non
  | .bool b, _, h => by cases h; exact .bl b
  | .int i, _, h => by cases h; exact .int i
  | .str x, _, h => by cases h; exact .str x
  | .list ds, _, h => by
    cases h with
    | lst h1 h2 => exact .lst (e _ _ h1) (RpA.mono e ds _ h2)
  | .tuple ds, _, h => by
    cases h with
    | tup h1 h2 => exact .tup (sm_tup e h1) (RpA.mono e ds _ h2)
  | .dict _, _, h => by cases h
theorem RpA.mono {G G' : Hp} (e : Same G G') : ∀ (ds : List PyData) (vs : List V), RpA K G vs ds → RpA K G' vs ds
  | [], _, h => by cases h; exact .nil
  | d :: ds, _, h => by
    cases h with
    | cons h1 h2 => exact .cons (Rp.mono e d _ h1) (RpA.mono e ds _ h2)
end
mutual
theorem Rp.dp {G : Hp} : ∀ (d : PyData) (v : V), Rp K G v d → Dp K G v d
  | .none, _, h => by cases h; exact .non
  | .bool b, _, h => by cases h; exact .bl b
  | .int i, _, h => by cases h; exact .int i
  | .str x, _, h => by cases h; exact .str x
  | .list ds, _, h => by
    cases h with
    | lst h1 h2 => exact .lst (SqL.of h1) (RpA.dp ds _ h2)
  | .tuple ds, _, h => by
    cases h with
    | tup h1 h2 => exact .tup h1 (RpA.dp ds _ h2)
  | .dict _, _, h => by cases h
theorem RpA.dp {G : Hp} : ∀ (ds : List PyData) (vs : List V), RpA K G vs ds → DpAll K G vs ds
  | [], _, h => by cases h; exact .nil
  | d :: ds, _, h => by
    cases h with
    | cons h1 h2 => exact .cons (Rp.dp d _ h1) (RpA.dp ds _ h2)
end
theorem RpA.length {G : Hp} : ∀ {vs : List V} {ds : List PyData}, RpA K G vs ds → vs.length = ds.length
  | [], _, h => by cases h; rfl
  | v :: vs, _, h => by
    cases h with
    | cons _ h2 =>
      rw [List.length_cons, List.length_cons, h2.length]
theorem RpA.get {G : Hp} : ∀ {vs : List V} {ds : List PyData} {i : Nat} {d : PyData}, RpA K G vs ds → ds[i]? = some d → ∃ v, vs[i]? = some v ∧ Rp K G v d
  | [], _, i, d, h, e => by cases h; cases e
  | v :: vs, _, 0, d, h, e => by
    cases h with
    | cons h1 h2 =>
      cases Option.some.inj e
      exact ⟨v, rfl, h1⟩
  | v :: vs, _, i + 1, d, h, e => by
    cases h with
    | cons h1 h2 => exact RpA.get (i := i) h2 e
theorem RpA.getV {G : Hp} : ∀ {vs : List V} {ds : List PyData} {i : Nat} {v : V}, RpA K G vs ds → vs[i]? = some v → ∃ d, ds[i]? = some d ∧ Rp K G v d
  | [], _, i, d, h, e => by cases e
  | v :: vs, _, 0, d, h, e => by
    cases h with
    | cons h1 h2 =>
      cases Option.some.inj e
      exact ⟨_, rfl, h1⟩
  | v :: vs, _, i + 1, d, h, e => by
    cases h with
    | cons h1 h2 => exact RpA.getV (i := i) h2 e
theorem RpA.append {G : Hp} : ∀ {vs ws : List V} {ds es : List PyData}, RpA K G vs ds → RpA K G ws es → RpA K G (vs ++ ws) (ds ++ es)
  | [], _, _, _, h, h2 => by cases h; exact h2
  | v :: vs, ws, _, es, h, h2 => by
    cases h with
    | cons h1 h3 => exact .cons h1 (RpA.append h3 h2)
theorem RpA.take {G : Hp} : ∀ {vs : List V} {ds : List PyData} (n : Nat), RpA K G vs ds → RpA K G (vs.take n) (ds.take n)
  | _, _, 0, _ => by
    rw [List.take_zero, List.take_zero]
    exact .nil
  | [], _, n + 1, h => by cases h; exact .nil
  | v :: vs, _, n + 1, h => by
    cases h with
    | cons h1 h3 => exact .cons h1 (RpA.take n h3)
theorem RpA.drop {G : Hp} : ∀ {vs : List V} {ds : List PyData} (n : Nat), RpA K G vs ds → RpA K G (vs.drop n) (ds.drop n)
  | _, _, 0, h => h
  | [], _, n + 1, h => by cases h; exact .nil
  | v :: vs, _, n + 1, h => by
    cases h with
    | cons h1 h3 => exact RpA.drop n h3
theorem RpA.ints {G : Hp} : ∀ {vs : List V} {ns : List Int}, RpA K G vs (ns.map .int) → vs = ns.map V.int
  | [], [], _ => rfl
  | [], _ :: _, h => by cases h
  | v :: vs, [], h => by cases h
  | v :: vs, n :: ns, h => by
    cases h with
    | cons h1 h2 =>
      cases h1
      rw [RpA.ints h2, List.map_cons]
theorem RpA.ofInts {G : Hp} : ∀ (ns : List Int), RpA K G (ns.map V.int) (ns.map .int)
  | [] => .nil
  | n :: ns => .cons (.int n) (RpA.ofInts ns)
theorem RpA.bls {G : Hp} : ∀ {vs : List V} {bs : List Bool}, RpA K G vs (bs.map .bool) → vs = bs.map V.bl
  | [], [], _ => rfl
  | [], _ :: _, h => by cases h
  | v :: vs, [], h => by cases h
  | v :: vs, n :: ns, h => by
    cases h with
    | cons h1 h2 =>
      cases h1
      rw [RpA.bls h2, List.map_cons]
theorem Rp.isInt {G : Hp} {v : V} {i : Int} (h : Rp K G v (.int i)) : v = .int i := by cases h; rfl
theorem Rp.isBl {G : Hp} {v : V} {b : Bool} (h : Rp K G v (.bool b)) : v = .bl b := by cases h; rfl
theorem Rp.isStr {G : Hp} {v : V} {x : Str} (h : Rp K G v (.str x)) : v = .str x := by cases h; rfl
theorem Rp.isNon {G : Hp} {v : V} (h : Rp K G v .none) : v = .non := by cases h; rfl
theorem Rp.isLst {G : Hp} {v : V} {ds : List PyData} (h : Rp K G v (.list ds)) : ∃ a xs, v = .ref a ∧ G a = some (.lst xs) ∧ RpA K G xs ds := by
  cases h with
  | lst h1 h2 => exact ⟨_, _, rfl, h1, h2⟩
theorem Rp.isTup {G : Hp} {v : V} {ds : List PyData} (h : Rp K G v (.tuple ds)) : ∃ a xs, v = .ref a ∧ SqT K G a xs ∧ RpA K G xs ds := by
  cases h with
  | tup h1 h2 => exact ⟨_, _, rfl, h1, h2⟩

/-! ### what is known of a value -/
structure RR where
  p : Hp → V → Prop
  mono : ∀ {G G' : Hp} {v : V}, Same G G' → p G v → p G' v
def Dat (K : PySem.W.Frag) (d : PyData) : RR := ⟨fun G v => Rp K G v d, fun e h => h.mono e⟩
def ExR {α : Type} (R : α → RR) : RR := ⟨fun G v => ∃ x, (R x).p G v, fun e ⟨x, h⟩ => ⟨x, (R x).mono e h⟩⟩
def AndR (c : Prop) (R : RR) : RR := ⟨fun G v => c ∧ R.p G v, fun e ⟨c, h⟩ => ⟨c, R.mono e h⟩⟩
def AnyR : RR := ⟨fun _ _ => True, fun _ _ => trivial⟩
def EqR (v : V) : RR := ⟨fun _ u => u = v, fun _ h => h⟩

def Als (G : Hp) : List V → List RR → Prop
  | [], [] => True
  | v :: vs, R :: Rs => R.p G v ∧ Als G vs Rs
  | _, _ => False
theorem Als.mono {G G' : Hp} (e : Same G G') : ∀ {vs : List V} {Rs : List RR}, Als G vs Rs → Als G' vs Rs
  | [], [], _ => trivial
  | _ :: _, [], h => h.elim
  | [], _ :: _, h => h.elim
  | _ :: vs, R :: Rs, h => ⟨R.mono e h.1, Als.mono (vs := vs) e h.2⟩
theorem Als.length {G : Hp} : ∀ {vs : List V} {Rs : List RR}, Als G vs Rs → vs.length = Rs.length
  | [], [], _ => rfl
  | _ :: _, [], h => h.elim
  | [], _ :: _, h => h.elim
  | _ :: vs, R :: Rs, h => congrArg (· + 1) (Als.length (vs := vs) h.2)
theorem Als.get {G : Hp} : ∀ {vs : List V} {Rs : List RR} {i : Nat} {R : RR}, Als G vs Rs → Rs[i]? = some R → ∃ v, vs[i]? = some v ∧ R.p G v
  | [], [], i, R, _, e => by cases e
  | _ :: _, [], _, _, h, _ => h.elim
  | [], _ :: _, _, _, h, _ => h.elim
  | v :: vs, R :: Rs, 0, R', h, e => by
    cases Option.some.inj e
    exact ⟨v, rfl, h.1⟩
  | v :: vs, R :: Rs, i + 1, R', h, e => Als.get (vs := vs) (i := i) h.2 e

/-! ### things that are being filled -/
structure OO where
  p : Hp → Addr → HO → Prop
  mono : ∀ {G G' : Hp} {a : Addr} {o : HO}, Same G G' → p G a o → p G' a o
  nt : ∀ {G : Hp} {a : Addr} {o : HO}, p G a o → tupO o = false
/-- a list that holds ds so far -/
def OLst (K : PySem.W.Frag) (ds : List PyData) : OO := ⟨fun G _ o => ∃ vs, o = .lst vs ∧ RpA K G vs ds, fun e ⟨vs, h, r⟩ => ⟨vs, h, r.mono e⟩, fun ⟨vs, h, _⟩ => by rw [h]; rfl⟩

inductive Slot where
  | no
  | val (R : RR)
  | opn (O : OO)
def SlotOk (H0 G H : Hp) (x : Option V) : Slot → Prop
  | .no => True
  | .val R => ∃ v, x = some v ∧ R.p G v
  | .opn O => ∃ a o, x = some (.ref a) ∧ G a = none ∧ H0 a = none ∧ H a = some o ∧ O.p G a o
theorem SlotOk.grow {H0 G H G2 H2 : Hp} {x : Option V} (g : Gr G H G2 H2) : ∀ {s : Slot}, SlotOk H0 G H x s → SlotOk H0 G2 H2 x s
  | .no, _ => trivial
  | .val R, ⟨v, e, h⟩ => ⟨v, e, R.mono g.gg h⟩
  | .opn O, ⟨a, o, e, h1, h2, h3, h4⟩ => ⟨a, o, e, g.nw a o h3 (O.nt h4) h1, h2, g.hh a o h3, O.mono g.gg h4⟩

structure Sg (H0 G H : Hp) (σ : L2.St) (Δ : List Slot) : Prop where
  len : σ.length = Δ.length
  ok : ∀ (i : Nat) (s : Slot), Δ[i]? = some s → ∃ x, σ[i]? = some x ∧ SlotOk H0 G H x s
  dis : ∀ (i j : Nat) (O O' : OO) (a : Addr), i ≠ j → Δ[i]? = some (.opn O) → Δ[j]? = some (.opn O') → σ[i]? = some (some (.ref a)) → σ[j]? ≠ some (some (.ref a))
section
variable {H0 G H G2 H2 : Hp} {σ : L2.St} {Δ : List Slot}
theorem Sg.grow (S : Sg H0 G H σ Δ) (g : Gr G H G2 H2) : Sg H0 G2 H2 σ Δ :=
  ⟨S.len, fun i s e => let ⟨x, h1, h2⟩ := S.ok i s e; ⟨x, h1, h2.grow g⟩, S.dis⟩
theorem Sg.val {i : Nat} {R : RR} (S : Sg H0 G H σ Δ) (e : Δ[i]? = some (.val R)) : ∃ v, σ[i]? = some (some v) ∧ R.p G v := by
  obtain ⟨x, h1, v, h2, h3⟩ := S.ok i _ e
  rw [h2] at h1
  exact ⟨v, h1, h3⟩
theorem Sg.opn {i : Nat} {O : OO} (S : Sg H0 G H σ Δ) (e : Δ[i]? = some (.opn O)) : ∃ a o, σ[i]? = some (some (.ref a)) ∧ G a = none ∧ H0 a = none ∧ H a = some o ∧ O.p G a o := by
  obtain ⟨x, h1, a, o, h2, h3⟩ := S.ok i _ e
  rw [h2] at h1
  exact ⟨a, o, h1, h3⟩
theorem get_set {α : Type} {l : List α} {i j : Nat} {x y : α} (h : (l.set i x)[j]? = some y) : (j = i ∧ y = x ∧ i < l.length) ∨ (j ≠ i ∧ l[j]? = some y) := by
  by_cases e : j = i
  · subst e
    have hl : j < l.length := by
      have := (List.getElem?_eq_some_iff.mp h).1
      rwa [List.length_set] at this
    rw [List.getElem?_set_self hl] at h
    exact Or.inl ⟨rfl, (Option.some.inj h).symm, hl⟩
  · rw [List.getElem?_set_ne (Ne.symm e)] at h
    exact Or.inr ⟨e, h⟩
theorem Sg.set {i : Nat} {v : V} {R : RR} (S : Sg H0 G H σ Δ) (h : R.p G v) : Sg H0 G H (σ.set i (some v)) (Δ.set i (.val R)) := by
  refine ⟨by rw [List.length_set, List.length_set]; exact S.len, fun j s e => ?_, fun j k O O' a hjk e1 e2 e3 e4 => ?_⟩
  · rcases get_set e with ⟨e1, e2, hl⟩ | ⟨e1, e2⟩
    · subst e1; subst e2
      exact ⟨some v, by rw [List.getElem?_set_self (by rw [S.len]; exact hl)], v, rfl, h⟩
    · obtain ⟨x, h1, h2⟩ := S.ok j s e2
      exact ⟨x, by rw [List.getElem?_set_ne (Ne.symm e1)]; exact h1, h2⟩
  · rcases get_set e1 with ⟨_, z, _⟩ | ⟨n1, f1⟩
    · cases z
    · rcases get_set e2 with ⟨_, z, _⟩ | ⟨n2, f2⟩
      · cases z
      · rw [List.getElem?_set_ne (Ne.symm n1)] at e3
        rw [List.getElem?_set_ne (Ne.symm n2)] at e4
        exact S.dis j k O O' a hjk f1 f2 e3 e4
/-- a slot forgotten -/
theorem Sg.forget {i : Nat} {x : Option V} (S : Sg H0 G H σ Δ) : Sg H0 G H (σ.set i x) (Δ.set i .no) := by
  refine ⟨by rw [List.length_set, List.length_set]; exact S.len, fun j s e => ?_, fun j k O O' a hjk e1 e2 e3 e4 => ?_⟩
  · rcases get_set e with ⟨e1, e2, hl⟩ | ⟨e1, e2⟩
    · subst e1; subst e2
      exact ⟨x, by rw [List.getElem?_set_self (by rw [S.len]; exact hl)], trivial⟩
    · obtain ⟨x, h1, h2⟩ := S.ok j s e2
      exact ⟨x, by rw [List.getElem?_set_ne (Ne.symm e1)]; exact h1, h2⟩
  · rcases get_set e1 with ⟨_, z, _⟩ | ⟨n1, f1⟩
    · cases z
    · rcases get_set e2 with ⟨_, z, _⟩ | ⟨n2, f2⟩
      · cases z
      · rw [List.getElem?_set_ne (Ne.symm n1)] at e3
        rw [List.getElem?_set_ne (Ne.symm n2)] at e4
        exact S.dis j k O O' a hjk f1 f2 e3 e4
def wipeD (Δ : List Slot) : List Nat → List Slot
  | [] => Δ
  | v :: vs => (wipeD Δ vs).set v .no
theorem Sg.wipe (S : Sg H0 G H σ Δ) : ∀ vs : List Nat, Sg H0 G H (L2.wipe σ vs) (wipeD Δ vs)
  | [] => S
  | v :: vs => (Sg.wipe S vs).forget
/-- a new open thing -/
theorem Sg.setO {i : Nat} {p : Addr} {o : HO} {O : OO} (S : Sg H0 G H σ Δ) (e : Same G H) (e0 : Same H0 H) (hp : H p = none) (h : O.p G p o) : Sg H0 G (upd H p o) (σ.set i (some (.ref p))) (Δ.set i (.opn O)) := by
  have S1 : Sg H0 G (upd H p o) σ Δ := S.grow (Gr.newO e hp)
  refine ⟨by rw [List.length_set, List.length_set]; exact S.len, fun j s e => ?_, fun j k O O' a hjk e1 e2 e3 e4 => ?_⟩
  · rcases get_set e with ⟨e1, e2, hl⟩ | ⟨e1, e2⟩
    · subst e1; subst e2
      exact ⟨_, by rw [List.getElem?_set_self (by rw [S.len]; exact hl)], p, o, rfl, sm_back ‹Same G H› hp, sm_back e0 hp, upd_same, h⟩
    · obtain ⟨x, h1, h2⟩ := S1.ok j s e2
      exact ⟨x, by rw [List.getElem?_set_ne (Ne.symm e1)]; exact h1, h2⟩
  · have key : ∀ (m : Nat) (O1 : OO), Δ[m]? = some (.opn O1) → σ[m]? ≠ some (some (.ref p)) := fun m O1 f1 f2 => by
      obtain ⟨b, o1, g1, _, _, g4, _⟩ := S.opn f1
      rw [g1] at f2
      cases f2
      rw [hp] at g4
      cases g4
    rcases get_set e1 with ⟨z1, z, hl⟩ | ⟨n1, f1⟩
    · rcases get_set e2 with ⟨z2, _, _⟩ | ⟨n2, f2⟩
      · exact hjk (z1.trans z2.symm)
      · subst z1
        rw [List.getElem?_set_self (by rw [S.len]; exact hl)] at e3
        cases e3
        rw [List.getElem?_set_ne (Ne.symm n2)] at e4
        exact key k _ f2 e4
    · rw [List.getElem?_set_ne (Ne.symm n1)] at e3
      rcases get_set e2 with ⟨z2, _, hl⟩ | ⟨n2, f2⟩
      · subst z2
        rw [List.getElem?_set_self (by rw [S.len]; exact hl)] at e4
        cases e4
        exact key j _ f1 e3
      · rw [List.getElem?_set_ne (Ne.symm n2)] at e4
        exact S1.dis j k O O' a hjk f1 f2 e3 e4
/-- an open thing is changed -/
theorem Sg.mut {i : Nat} {a : Addr} {o : HO} {O O1 : OO} (S : Sg H0 G H σ Δ) (ei : Δ[i]? = some (.opn O)) (hi : σ[i]? = some (some (.ref a))) (hg : G a = none) (h0 : H0 a = none) (h : O1.p G a o) : Sg H0 G (upd H a o) σ (Δ.set i (.opn O1)) := by
  refine ⟨by rw [List.length_set]; exact S.len, fun j s e => ?_, fun j k O' O'' b hjk e1 e2 e3 e4 => ?_⟩
  · rcases get_set e with ⟨e1, e2, hl⟩ | ⟨e1, e2⟩
    · subst e1; subst e2
      exact ⟨_, hi, a, o, rfl, hg, h0, upd_same, h⟩
    · obtain ⟨x, h1, h2⟩ := S.ok j s e2
      refine ⟨x, h1, ?_⟩
      cases s with
      | no => trivial
      | val R => exact h2
      | opn O2 =>
        obtain ⟨b, o2, z1, z2, z3, z4, z5⟩ := h2
        refine ⟨b, o2, z1, z2, z3, ?_, z5⟩
        rw [upd_ne (fun z => ?_)]
        · exact z4
        · subst z
          rw [z1] at h1
          exact S.dis i j O O2 b (Ne.symm e1) ei e2 hi h1
  · rcases get_set e1 with ⟨z1, _, _⟩ | ⟨n1, f1⟩
    · subst z1
      rcases get_set e2 with ⟨z2, _, _⟩ | ⟨n2, f2⟩
      · exact hjk z2.symm
      · exact S.dis j k O O'' b hjk ei f2 e3 e4
    · rcases get_set e2 with ⟨z2, _, _⟩ | ⟨n2, f2⟩
      · subst z2
        exact S.dis j k O' O b hjk f1 ei e3 e4
      · exact S.dis j k O' O'' b hjk f1 f2 e3 e4
/-- an open thing is closed: from now on it stands -/
theorem Sg.freeze {i : Nat} {O : OO} {R : RR} (S : Sg H0 G H σ Δ) (e : Same G H) (ei : Δ[i]? = some (.opn O)) (hR : ∀ (G' : Hp) (a : Addr) (o : HO), Same G G' → O.p G a o → G' a = some o → σ[i]? = some (some (.ref a)) → R.p G' (.ref a)) :
    ∃ a o, G a = none ∧ H0 a = none ∧ H a = some o ∧ Same G (upd G a o) ∧ Same (upd G a o) H ∧ Sg H0 (upd G a o) H σ (Δ.set i (.val R)) := by
  obtain ⟨a, o, h1, h2, h3, h4, h5⟩ := S.opn ei
  have g1 : Same G (upd G a o) := sm_new h2
  refine ⟨a, o, h2, h3, h4, g1, fun b u x => ?_, ⟨by rw [List.length_set]; exact S.len, fun j s e' => ?_, fun j k O' O'' b hjk e1 e2 e3 e4 => ?_⟩⟩
  · by_cases hb : b = a
    · subst hb
      rw [upd_same] at x
      cases x
      exact h4
    · rw [upd_ne hb] at x
      exact e b u x
  · rcases get_set e' with ⟨e1, e2, hl⟩ | ⟨e1, e2⟩
    · subst e1; subst e2
      exact ⟨_, h1, .ref a, rfl, hR _ a o g1 h5 upd_same h1⟩
    · obtain ⟨x, z1, z2⟩ := S.ok j s e2
      refine ⟨x, z1, ?_⟩
      cases s with
      | no => trivial
      | val R =>
        obtain ⟨v, y1, y2⟩ := z2
        exact ⟨v, y1, R.mono g1 y2⟩
      | opn O2 =>
        obtain ⟨b, o2, y1, y2, y3, y4, y5⟩ := z2
        refine ⟨b, o2, y1, ?_, y3, y4, O2.mono g1 y5⟩
        rw [upd_ne (fun z => ?_)]
        · exact y2
        · subst z
          rw [y1] at z1
          exact S.dis i j O O2 b (Ne.symm e1) ei e2 h1 z1
  · rcases get_set e1 with ⟨_, z, _⟩ | ⟨n1, f1⟩
    · cases z
    · rcases get_set e2 with ⟨_, z, _⟩ | ⟨n2, f2⟩
      · cases z
      · exact S.dis j k O' O'' b hjk f1 f2 e3 e4
/-- less is known of a slot -/
theorem Sg.sub {i : Nat} {R R' : RR} (S : Sg H0 G H σ Δ) (ei : Δ[i]? = some (.val R)) (h : ∀ v, R.p G v → R'.p G v) : Sg H0 G H σ (Δ.set i (.val R')) := by
  refine ⟨by rw [List.length_set]; exact S.len, fun j s e' => ?_, fun j k O' O'' b hjk e1 e2 e3 e4 => ?_⟩
  · rcases get_set e' with ⟨e1, e2, hl⟩ | ⟨e1, e2⟩
    · subst e1; subst e2
      obtain ⟨v, h1, h2⟩ := S.val ei
      exact ⟨_, h1, v, rfl, h v h2⟩
    · exact S.ok j s e2
  · rcases get_set e1 with ⟨_, z, _⟩ | ⟨n1, f1⟩
    · cases z
    · rcases get_set e2 with ⟨_, z, _⟩ | ⟨n2, f2⟩
      · cases z
      · exact S.dis j k O' O'' b hjk f1 f2 e3 e4
end
end DL
/-! D1: expressions over data. -/
namespace DL
open PySem PySem.Spec PyProof.Rows L2

/-- te comes to a value of which R holds -/
def EvR (te : TE) (Δ : List Slot) (R : RR) : Prop := ∀ (H0 G H : Hp) (σ : L2.St), Same G H → Same H0 H → Sg H0 G H σ Δ → ∀ Q : VK, (∀ v G2 H2, Gr G H G2 H2 → R.p G2 v → Q v H2) → te σ H Q
def EvT (tt : TT) (Δ : List Slot) (b : Bool) : Prop := ∀ (H0 G H : Hp) (σ : L2.St), Same G H → Same H0 H → Sg H0 G H σ Δ → ∀ Q : Bool → Hp → Prop, (∀ G2 H2, Gr G H G2 H2 → Q b H2) → tt σ H Q
def EvA (ta : TA) (Δ : List Slot) (Rs : List RR) : Prop := ∀ (H0 G H : Hp) (σ : L2.St), Same G H → Same H0 H → Sg H0 G H σ Δ → ∀ Q : List V → Hp → Prop, (∀ vs G2 H2, Gr G H G2 H2 → Als G2 vs Rs → Q vs H2) → ta σ H Q
def EvO (to : TO) (Δ : List Slot) (o : Option Int) : Prop := ∀ (H0 G H : Hp) (σ : L2.St), Same G H → Same H0 H → Sg H0 G H σ Δ → ∀ Q : Option Int → Hp → Prop, (∀ G2 H2, Gr G H G2 H2 → Q o H2) → to σ H Q
/-- operations by values -/
def OpE (r : R2) (R1 R2' R : RR) : Prop := ∀ (G H : Hp) (x y : V), Same G H → R1.p G x → R2'.p G y → ∀ Q : VK, (∀ v G2 H2, Gr G H G2 H2 → R.p G2 v → Q v H2) → r x y H Q
def UnE (r : V → Hp → VK → Prop) (R1 R : RR) : Prop := ∀ (G H : Hp) (x : V), Same G H → R1.p G x → ∀ Q : VK, (∀ v G2 H2, Gr G H G2 H2 → R.p G2 v → Q v H2) → r x H Q
def CbE (r : List V → Hp → VK → Prop) (Rs : List RR) (R : RR) : Prop := ∀ (G H : Hp) (vs : List V), Same G H → Als G vs Rs → ∀ Q : VK, (∀ v G2 H2, Gr G H G2 H2 → R.p G2 v → Q v H2) → r vs H Q

variable {K : PySem.W.Frag} {Δ : List Slot} {ta tb tc te : TE} {R R1 R3 : RR} {r r' : R2} {t u : TT}

theorem EvR.sub (h : EvR te Δ R) (s : ∀ G v, R.p G v → R1.p G v) : EvR te Δ R1 := fun H0 G H σ e e0 S Q q => h H0 G H σ e e0 S Q fun v G2 H2 g p => q v G2 H2 g (s G2 v p)
theorem EvR.cast {d d' : PyData} (h : EvR te Δ (Dat K d)) (e : d = d') : EvR te Δ (Dat K d') := by
  rw [← e]
  exact h
theorem EvT.cast {b b' : Bool} (h : EvT t Δ b) (e : b = b') : EvT t Δ b' := by
  rw [← e]
  exact h
theorem ev_var {i : Nat} (h : Δ[i]? = some (.val R)) : EvR (tVar i) Δ R := fun H0 G H σ e e0 S Q q =>
  let ⟨v, h1, h2⟩ := S.val h
  ⟨v, h1, q v G H (Gr.refl e) h2⟩
theorem ev_c {v : V} (h : ∀ G, R.p G v) : EvR (tC v) Δ R := fun H0 G H σ e e0 S Q q => q v G H (Gr.refl e) (h G)
theorem ev_int {i : Int} : EvR (tC (.int i)) Δ (Dat K (.int i)) := ev_c fun _ => .int i
theorem ev_bl {b : Bool} : EvR (tC (.bl b)) Δ (Dat K (.bool b)) := ev_c fun _ => .bl b
theorem ev_str {x : Str} : EvR (tC (.str x)) Δ (Dat K (.str x)) := ev_c fun _ => .str x
theorem ev_non : EvR (tC .non) Δ (Dat K .none) := ev_c fun _ => .non
theorem ev_op (ha : EvR ta Δ R1) (hb : EvR tb Δ R3) (hr : OpE r R1 R3 R) : EvR (tOp r ta tb) Δ R := fun H0 G H σ e e0 S Q q =>
  ha H0 G H σ e e0 S _ fun x G1 H1 g1 p1 => hb H0 G1 H1 σ g1.gh (e0.trans g1.hh) (S.grow g1) _ fun y G2 H2 g2 p2 =>
    hr G2 H2 x y g2.gh (R1.mono g2.gg p1) p2 Q fun v G3 H3 g3 p3 => q v G3 H3 ((g1.trans g2).trans g3) p3
theorem ev_un {ru : V → Hp → VK → Prop} (ha : EvR ta Δ R1) (hr : UnE ru R1 R) : EvR (tUn ru ta) Δ R := fun H0 G H σ e e0 S Q q =>
  ha H0 G H σ e e0 S _ fun x G1 H1 g1 p1 => hr G1 H1 x g1.gh p1 Q fun v G3 H3 g3 p3 => q v G3 H3 (g1.trans g3) p3
theorem ea_nil : EvA tNil Δ [] := fun H0 G H σ e e0 S Q q => q [] G H (Gr.refl e) trivial
theorem ea_cons {tr : TA} {Rs : List RR} (h : EvR te Δ R) (hr : EvA tr Δ Rs) : EvA (tCons te tr) Δ (R :: Rs) := fun H0 G H σ e e0 S Q q =>
  h H0 G H σ e e0 S _ fun x G1 H1 g1 p1 => hr H0 G1 H1 σ g1.gh (e0.trans g1.hh) (S.grow g1) _ fun xs G2 H2 g2 p2 => q (x :: xs) G2 H2 (g1.trans g2) ⟨R.mono g2.gg p1, p2⟩
theorem ev_cb {rc : List V → Hp → VK → Prop} {tx : TA} {Rs : List RR} (h : EvA tx Δ Rs) (hr : CbE rc Rs R) : EvR (tCB rc tx) Δ R := fun H0 G H σ e e0 S Q q =>
  h H0 G H σ e e0 S _ fun xs G1 H1 g1 p1 => hr G1 H1 xs g1.gh p1 Q fun v G3 H3 g3 p3 => q v G3 H3 (g1.trans g3) p3
theorem eo_none : EvO tNoPart Δ none := fun H0 G H σ e e0 S Q q => q G H (Gr.refl e)
theorem eo_some {i : Int} (h : EvR te Δ (Dat K (.int i))) : EvO (tPart te) Δ (some i) := fun H0 G H σ e e0 S Q q =>
  h H0 G H σ e e0 S _ fun x G1 H1 g1 p1 => ⟨i, p1.isInt, q G1 H1 g1⟩

/-! ### ints -/
section
variable {i j : Int}
theorem op_I0 {g : Int → Int → V} {d : PyData} (hg : ∀ G, Rp K G (g i j) d) : OpE (rI0 g) (Dat K (.int i)) (Dat K (.int j)) (Dat K d) := fun G H x y e p1 p2 Q q =>
  ⟨i, j, p1.isInt, p2.isInt, q _ G H (Gr.refl e) (hg G)⟩
theorem op_I {C : Int → Int → Prop} {g : Int → Int → V} {d : PyData} (hc : C i j) (hg : ∀ G, Rp K G (g i j) d) : OpE (rI C g) (Dat K (.int i)) (Dat K (.int j)) (Dat K d) := fun G H x y e p1 p2 Q q =>
  ⟨i, j, p1.isInt, p2.isInt, hc, q _ G H (Gr.refl e) (hg G)⟩
theorem ev_add (ha : EvR ta Δ (Dat K (.int i))) (hb : EvR tb Δ (Dat K (.int j))) : EvR (tOp (rI0 fun i j => .int (i + j)) ta tb) Δ (Dat K (.int (i + j))) := ev_op ha hb (op_I0 fun _ => .int _)
theorem ev_sub (ha : EvR ta Δ (Dat K (.int i))) (hb : EvR tb Δ (Dat K (.int j))) : EvR (tOp (rI0 fun i j => .int (i - j)) ta tb) Δ (Dat K (.int (i - j))) := ev_op ha hb (op_I0 fun _ => .int _)
theorem ev_mul (ha : EvR ta Δ (Dat K (.int i))) (hb : EvR tb Δ (Dat K (.int j))) (hc : CMul i j) : EvR (tOp (rI CMul fun i j => .int (i * j)) ta tb) Δ (Dat K (.int (i * j))) := ev_op ha hb (op_I hc fun _ => .int _)
theorem ev_mulW (ha : EvR ta Δ (Dat K (.int i))) (hb : EvR tb Δ (Dat K (.int j))) (hc : CMulW i j) : EvR (tOp (rI CMulW fun i j => .int (i * j)) ta tb) Δ (Dat K (.int (i * j))) := ev_op ha hb (op_I hc fun _ => .int _)
theorem ev_mod (ha : EvR ta Δ (Dat K (.int i))) (hb : EvR tb Δ (Dat K (.int j))) (hc : 0 < j) : EvR (tOp (rI (fun _ j => 0 < j) fun i j => .int (i % j)) ta tb) Δ (Dat K (.int (i % j))) := ev_op ha hb (op_I hc fun _ => .int _)
theorem ev_fdiv (ha : EvR ta Δ (Dat K (.int i))) (hb : EvR tb Δ (Dat K (.int j))) (hc : CDiv i j) : EvR (tOp (rI CDiv fun i j => .int (i / j)) ta tb) Δ (Dat K (.int (i / j))) := ev_op ha hb (op_I hc fun _ => .int _)
theorem ev_fdivW (ha : EvR ta Δ (Dat K (.int i))) (hb : EvR tb Δ (Dat K (.int j))) (hc : CDivW i j) : EvR (tOp (rI CDivW fun i j => .int (i / j)) ta tb) Δ (Dat K (.int (i / j))) := ev_op ha hb (op_I hc fun _ => .int _)
theorem ev_pow (ha : EvR ta Δ (Dat K (.int i))) (hb : EvR tb Δ (Dat K (.int j))) (hc : CPow i j) : EvR (tOp (rI CPow fun i j => .int (i ^ j.toNat)) ta tb) Δ (Dat K (.int (i ^ j.toNat))) := ev_op ha hb (op_I hc fun _ => .int _)
theorem ev_lt (ha : EvR ta Δ (Dat K (.int i))) (hb : EvR tb Δ (Dat K (.int j))) : EvR (tOp (rI0 fun i j => .bl (decide (i < j))) ta tb) Δ (Dat K (.bool (decide (i < j)))) := ev_op ha hb (op_I0 fun _ => .bl _)
theorem ev_le (ha : EvR ta Δ (Dat K (.int i))) (hb : EvR tb Δ (Dat K (.int j))) : EvR (tOp (rI0 fun i j => .bl (decide (i ≤ j))) ta tb) Δ (Dat K (.bool (decide (i ≤ j)))) := ev_op ha hb (op_I0 fun _ => .bl _)
theorem ev_gt (ha : EvR ta Δ (Dat K (.int i))) (hb : EvR tb Δ (Dat K (.int j))) : EvR (tOp (rI0 fun i j => .bl (decide (j < i))) ta tb) Δ (Dat K (.bool (decide (j < i)))) := ev_op ha hb (op_I0 fun _ => .bl _)
theorem ev_ge (ha : EvR ta Δ (Dat K (.int i))) (hb : EvR tb Δ (Dat K (.int j))) : EvR (tOp (rI0 fun i j => .bl (decide (j ≤ i))) ta tb) Δ (Dat K (.bool (decide (j ≤ i)))) := ev_op ha hb (op_I0 fun _ => .bl _)
theorem ev_neg (ha : EvR ta Δ (Dat K (.int i))) : EvR (tUn (rU fun i => .int (-i)) ta) Δ (Dat K (.int (-i))) := ev_un ha fun G H x e p Q q => ⟨i, p.isInt, q _ G H (Gr.refl e) (.int _)⟩
theorem ev_eqI (ha : EvR ta Δ (Dat K (.int i))) (hb : EvR tb Δ (Dat K (.int j))) : EvR (tOp rEq ta tb) Δ (Dat K (.bool (decide (i = j)))) := ev_op ha hb fun G H x y e p1 p2 Q q => by
  rw [p1.isInt, p2.isInt]
  refine ⟨rfl, q _ G H (Gr.refl e) ?_⟩
  have z : decide (V.int i = V.int j) = decide (i = j) := by simp
  rw [z]
  exact .bl _
theorem ev_neI (ha : EvR ta Δ (Dat K (.int i))) (hb : EvR tb Δ (Dat K (.int j))) : EvR (tOp rNe ta tb) Δ (Dat K (.bool (!decide (i = j)))) := ev_op ha hb fun G H x y e p1 p2 Q q => by
  rw [p1.isInt, p2.isInt]
  refine ⟨rfl, q _ G H (Gr.refl e) ?_⟩
  have z : decide (V.int i = V.int j) = decide (i = j) := by simp
  rw [z]
  exact .bl _
end
/-! ### None -/
def isNoneD : PyData → Bool
  | .none => true
  | _ => false
theorem rp_none {G : Hp} {x : V} {d : PyData} (h : Rp K G x d) : decide (x = .non) = isNoneD d := by
  cases h <;> rfl
theorem ev_isN {d : PyData} (ha : EvR ta Δ (Dat K d)) (hb : EvR tb Δ (Dat K .none)) : EvR (tOp (fun x y H Q => y = .non ∧ Q (.bl (decide (x = .non))) H) ta tb) Δ (Dat K (.bool (isNoneD d))) := ev_op ha hb fun G H x y e p1 p2 Q q => by
  refine ⟨p2.isNon, q _ G H (Gr.refl e) ?_⟩
  rw [rp_none p1]
  exact .bl _
theorem ev_notN {d : PyData} (ha : EvR ta Δ (Dat K d)) (hb : EvR tb Δ (Dat K .none)) : EvR (tOp (fun x y H Q => y = .non ∧ Q (.bl (!decide (x = .non))) H) ta tb) Δ (Dat K (.bool (!isNoneD d))) := ev_op ha hb fun G H x y e p1 p2 Q q => by
  refine ⟨p2.isNon, q _ G H (Gr.refl e) ?_⟩
  rw [rp_none p1]
  exact .bl _

/-! ### tests, and, or, not -/
section
variable {a b c : Bool}
theorem et_test (h : EvR te Δ (Dat K (.bool b))) : EvT (tTest te) Δ b := fun H0 G H σ e e0 S Q q => h H0 G H σ e e0 S _ fun x G1 H1 g1 p1 => ⟨b, p1.isBl, q G1 H1 g1⟩
theorem et_B (h : EvR te Δ (Dat K (.bool b))) : EvT (tB te) Δ b := fun H0 G H σ e e0 S Q q => h H0 G H σ e e0 S _ fun x G1 H1 g1 p1 => ⟨b, p1.isBl, q G1 H1 g1⟩
theorem et_and (h1 : EvT t Δ a) (h2 : a = true → EvT u Δ b) : EvT (tAnd t u) Δ (a && b) := fun H0 G H σ e e0 S Q q => h1 H0 G H σ e e0 S _ fun G1 H1 g1 => by
  cases a with
  | true =>
    show u σ H1 Q
    exact h2 rfl H0 G1 H1 σ g1.gh (e0.trans g1.hh) (S.grow g1) Q fun G2 H2 g2 => q G2 H2 (g1.trans g2)
  | false =>
    show Q false H1
    exact q G1 H1 g1
theorem et_or (h1 : EvT t Δ a) (h2 : a = false → EvT u Δ b) : EvT (tOr t u) Δ (a || b) := fun H0 G H σ e e0 S Q q => h1 H0 G H σ e e0 S _ fun G1 H1 g1 => by
  cases a with
  | true =>
    show Q true H1
    exact q G1 H1 g1
  | false =>
    show u σ H1 Q
    exact h2 rfl H0 G1 H1 σ g1.gh (e0.trans g1.hh) (S.grow g1) Q fun G2 H2 g2 => q G2 H2 (g1.trans g2)
theorem et_not (h1 : EvT t Δ a) : EvT (tNot t) Δ (!a) := fun H0 G H σ e e0 S Q q => h1 H0 G H σ e e0 S _ fun G1 H1 g1 => q G1 H1 g1
theorem ev_andV (h1 : EvR ta Δ (Dat K (.bool a))) (h2 : a = true → EvR tb Δ (Dat K (.bool b))) : EvR (tAndV ta tb) Δ (Dat K (.bool (a && b))) := fun H0 G H σ e e0 S Q q => h1 H0 G H σ e e0 S _ fun x G1 H1 g1 p1 => ⟨a, p1.isBl, by
  cases a with
  | true =>
    show tb σ H1 Q
    exact h2 rfl H0 G1 H1 σ g1.gh (e0.trans g1.hh) (S.grow g1) Q fun v G2 H2 g2 p2 => q v G2 H2 (g1.trans g2) p2
  | false =>
    show Q (.bl false) H1
    exact q _ G1 H1 g1 (.bl _)⟩
theorem ev_orV (h1 : EvR ta Δ (Dat K (.bool a))) (h2 : a = false → EvR tb Δ (Dat K (.bool b))) : EvR (tOrV ta tb) Δ (Dat K (.bool (a || b))) := fun H0 G H σ e e0 S Q q => h1 H0 G H σ e e0 S _ fun x G1 H1 g1 p1 => ⟨a, p1.isBl, by
  cases a with
  | true =>
    show Q (.bl true) H1
    exact q _ G1 H1 g1 (.bl _)
  | false =>
    show tb σ H1 Q
    exact h2 rfl H0 G1 H1 σ g1.gh (e0.trans g1.hh) (S.grow g1) Q fun v G2 H2 g2 p2 => q v G2 H2 (g1.trans g2) p2⟩
theorem ev_notV (h1 : EvR ta Δ (Dat K (.bool a))) : EvR (tNotV ta) Δ (Dat K (.bool (!a))) := fun H0 G H σ e e0 S Q q => h1 H0 G H σ e e0 S _ fun x G1 H1 g1 p1 => ⟨a, p1.isBl, q _ G1 H1 g1 (.bl _)⟩
theorem ev_ifE (h : EvT t Δ b) (h1 : b = true → EvR ta Δ R) (h2 : b = false → EvR tb Δ R) : EvR (tIf t ta tb) Δ R := fun H0 G H σ e e0 S Q q => h H0 G H σ e e0 S _ fun G1 H1 g1 => by
  cases b with
  | true =>
    show ta σ H1 Q
    exact h1 rfl H0 G1 H1 σ g1.gh (e0.trans g1.hh) (S.grow g1) Q fun v G2 H2 g2 p2 => q v G2 H2 (g1.trans g2) p2
  | false =>
    show tb σ H1 Q
    exact h2 rfl H0 G1 H1 σ g1.gh (e0.trans g1.hh) (S.grow g1) Q fun v G2 H2 g2 p2 => q v G2 H2 (g1.trans g2) p2
/-- a < b < c on ints -/
theorem ev_chain {i j k : Int} {f g : Int → Int → Bool} (ha : EvR ta Δ (Dat K (.int i))) (hb : EvR tb Δ (Dat K (.int j))) (hc : f i j = true → EvR tc Δ (Dat K (.int k))) :
    EvR (tChain (rI0 fun i j => .bl (f i j)) (rI0 fun i j => .bl (g i j)) ta tb tc) Δ (Dat K (.bool (f i j && g j k))) := fun H0 G H σ e e0 S Q q =>
  ha H0 G H σ e e0 S _ fun x G1 H1 g1 p1 => hb H0 G1 H1 σ g1.gh (e0.trans g1.hh) (S.grow g1) _ fun y G2 H2 g2 p2 => ⟨i, j, p1.isInt, p2.isInt, f i j, rfl, by
    cases h : f i j with
    | true =>
      rw [if_pos rfl]
      exact hc h H0 G2 H2 σ g2.gh ((e0.trans g1.hh).trans g2.hh) ((S.grow g1).grow g2) _ fun z G3 H3 g3 p3 => ⟨j, k, p2.isInt, p3.isInt, q _ G3 H3 ((g1.trans g2).trans g3) (by rw [h, Bool.true_and]; exact .bl _)⟩
    | false =>
      rw [if_neg Bool.false_ne_true]
      exact q _ G2 H2 (g1.trans g2) (by rw [h, Bool.false_and]; exact .bl _)⟩
end

/-! ### tuples, lists -/
theorem Als.rpa {G : Hp} : ∀ {vs : List V} {ds : List PyData}, Als G vs (ds.map (Dat K)) → RpA K G vs ds
  | [], [], _ => .nil
  | _ :: _, [], h => h.elim
  | [], _ :: _, h => h.elim
  | v :: vs, d :: ds, h => .cons h.1 (Als.rpa h.2)
theorem ev_tup {tx : TA} {ds : List PyData} (h : EvA tx Δ (ds.map (Dat K))) (hl : ds.length ≤ sizeLine := by decide) : EvR (tTup tx) Δ (Dat K (.tuple ds)) := fun H0 G H σ e e0 S Q q =>
  h H0 G H σ e e0 S _ fun xs G1 H1 g1 p1 => ⟨by rw [p1.length, List.length_map]; exact hl, fun p hp => q _ (upd G1 p (.tup xs)) _ (g1.trans (Gr.new g1.gh hp)) (.tup (SqT.of upd_same) (RpA.mono (sm_new (sm_back g1.gh hp)) _ _ (Als.rpa p1)))⟩
theorem ev_lst {tx : TA} {ds : List PyData} (h : EvA tx Δ (ds.map (Dat K))) (hl : ds.length ≤ sizeLine := by decide) : EvR (tLst tx) Δ (Dat K (.list ds)) := fun H0 G H σ e e0 S Q q =>
  h H0 G H σ e e0 S _ fun xs G1 H1 g1 p1 => ⟨by rw [p1.length, List.length_map]; exact hl, fun p hp => q _ (upd G1 p (.lst xs)) _ (g1.trans (Gr.new g1.gh hp)) (.lst upd_same (RpA.mono (sm_new (sm_back g1.gh hp)) _ _ (Als.rpa p1)))⟩
theorem atI_rpa {G : Hp} {vs : List V} {ds : List PyData} {i : Int} {d : PyData} (h : RpA K G vs ds) (e : atI ds i = some d) : ∃ v, atI vs i = some v ∧ Rp K G v d := by
  unfold atI at e ⊢
  rw [h.length]
  cases z : ixN ds.length i with
  | none =>
    rw [z] at e
    cases e
  | some j =>
    rw [z] at e
    exact h.get e
theorem ev_ixL {ds : List PyData} {i : Int} {d : PyData} (ha : EvR ta Δ (Dat K (.list ds))) (hb : EvR tb Δ (Dat K (.int i))) (hd : atI ds i = some d) : EvR (tOp (rIxL K) ta tb) Δ (Dat K d) := ev_op ha hb fun G H x y e p1 p2 Q q =>
  let ⟨a, xs, h1, h2, h3⟩ := p1.isLst
  let ⟨v, h4, h5⟩ := atI_rpa h3 hd
  ⟨a, xs, i, v, h1, p2.isInt, SqL.of (e _ _ h2), h4, q v G H (Gr.refl e) h5⟩
theorem ev_ixT {ds : List PyData} {i : Int} {d : PyData} (ha : EvR ta Δ (Dat K (.tuple ds))) (hb : EvR tb Δ (Dat K (.int i))) (hd : atI ds i = some d) : EvR (tOp (rIxT K) ta tb) Δ (Dat K d) := ev_op ha hb fun G H x y e p1 p2 Q q =>
  let ⟨a, xs, h1, h2, h3⟩ := p1.isTup
  let ⟨v, h4, h5⟩ := atI_rpa h3 hd
  ⟨a, xs, i, v, h1, p2.isInt, sm_tup e h2, h4, q v G H (Gr.refl e) h5⟩
def cutD (xs : List PyData) (lo hi : Option Int) : List PyData := (xs.drop (HT.sIx xs.length 0 lo)).take (HT.sIx xs.length xs.length hi - HT.sIx xs.length 0 lo)
theorem cut_rpa {G : Hp} {vs : List V} {ds : List PyData} {lo hi : Option Int} (h : RpA K G vs ds) : RpA K G (cutV vs lo hi) (cutD ds lo hi) := by
  unfold cutV cutD
  rw [h.length]
  exact RpA.take _ (RpA.drop _ h)
theorem ev_slL {ds : List PyData} {tl th : TO} {lo hi : Option Int} (ha : EvR ta Δ (Dat K (.list ds))) (h1 : EvO tl Δ lo) (h2 : EvO th Δ hi) : EvR (tSl (rSlL K) ta tl th) Δ (Dat K (.list (cutD ds lo hi))) := fun H0 G H σ e e0 S Q q =>
  ha H0 G H σ e e0 S _ fun x G1 H1 g1 p1 => h1 H0 G1 H1 σ g1.gh (e0.trans g1.hh) (S.grow g1) _ fun G2 H2 g2 => h2 H0 G2 H2 σ g2.gh ((e0.trans g1.hh).trans g2.hh) ((S.grow g1).grow g2) _ fun G3 H3 g3 =>
    let ⟨a, xs, z1, z2, z3⟩ := p1.isLst
    have g := g2.trans g3
    ⟨a, xs, z1, SqL.of (g.hh _ _ (g1.gh _ _ z2)), fun p hp => q _ (upd G3 p (.lst (cutV xs lo hi))) _ ((g1.trans g).trans (Gr.new g3.gh hp)) (.lst upd_same (RpA.mono (g.gg.trans (sm_new (sm_back g3.gh hp))) _ _ (cut_rpa z3)))⟩
/-- a part of a tuple, not the whole -/
theorem ev_slT {ds : List PyData} {tl th : TO} {lo hi : Option Int} (ha : EvR ta Δ (Dat K (.tuple ds))) (h1 : EvO tl Δ lo) (h2 : EvO th Δ hi) (hn : ¬ (HT.sIx ds.length 0 lo = 0 ∧ HT.sIx ds.length ds.length hi = ds.length)) :
    EvR (tSl (rSlT K) ta tl th) Δ (Dat K (.tuple (cutD ds lo hi))) := fun H0 G H σ e e0 S Q q =>
  ha H0 G H σ e e0 S _ fun x G1 H1 g1 p1 => h1 H0 G1 H1 σ g1.gh (e0.trans g1.hh) (S.grow g1) _ fun G2 H2 g2 => h2 H0 G2 H2 σ g2.gh ((e0.trans g1.hh).trans g2.hh) ((S.grow g1).grow g2) _ fun G3 H3 g3 =>
    let ⟨a, xs, z1, z2, z3⟩ := p1.isTup
    have g := g2.trans g3
    ⟨a, xs, z1, sm_tup g.hh (sm_tup g1.gh z2), by rw [z3.length]; exact hn, fun p hp => q _ (upd G3 p (.tup (cutV xs lo hi))) _ ((g1.trans g).trans (Gr.new g3.gh hp)) (.tup (SqT.of upd_same) (RpA.mono (g.gg.trans (sm_new (sm_back g3.gh hp))) _ _ (cut_rpa z3)))⟩
theorem ev_cat {ds es : List PyData} (ha : EvR ta Δ (Dat K (.list ds))) (hb : EvR tb Δ (Dat K (.list es))) (hl : ds.length + es.length ≤ sizeLine) : EvR (tOp rCat ta tb) Δ (Dat K (.list (ds ++ es))) := ev_op ha hb fun G H x y e p1 p2 Q q =>
  let ⟨a, xs, h1, h2, h3⟩ := p1.isLst
  let ⟨b, ys, h4, h5, h6⟩ := p2.isLst
  ⟨a, b, xs, ys, h1, h4, e _ _ h2, e _ _ h5, by rw [h3.length, h6.length]; exact hl, fun p hp => q _ (upd G p (.lst (xs ++ ys))) _ (Gr.new e hp) (.lst upd_same (RpA.mono (sm_new (sm_back e hp)) _ _ (RpA.append h3 h6)))⟩
/-! ### built-ins -/
theorem cb_len_seqL {ds : List PyData} : CbE (fun xs H Q => ∃ p ys, xs = [.ref p] ∧ (SqL K H p ys ∨ SqT K H p ys) ∧ Q (.int ys.length) H) [Dat K (.list ds)] (Dat K (.int ds.length)) := fun G H vs e p Q q => by
  match vs, p with
  | [v], ⟨p1, _⟩ =>
    obtain ⟨a, xs, h1, h2, h3⟩ := Rp.isLst p1
    subst h1
    refine ⟨a, xs, rfl, .inl (SqL.of (e _ _ h2)), q _ G H (Gr.refl e) ?_⟩
    rw [h3.length]
    exact .int _
theorem cb_len_seqT {ds : List PyData} : CbE (fun xs H Q => ∃ p ys, xs = [.ref p] ∧ (SqL K H p ys ∨ SqT K H p ys) ∧ Q (.int ys.length) H) [Dat K (.tuple ds)] (Dat K (.int ds.length)) := fun G H vs e p Q q => by
  match vs, p with
  | [v], ⟨p1, _⟩ =>
    obtain ⟨a, xs, h1, h2, h3⟩ := Rp.isTup p1
    subst h1
    refine ⟨a, xs, rfl, .inr (sm_tup e h2), q _ G H (Gr.refl e) ?_⟩
    rw [h3.length]
    exact .int _
theorem cb_len_str {z : Str} (hz : z.length ≤ sizeLine) : CbE (fun xs H Q => ∃ z, xs = [.str z] ∧ z.length ≤ sizeLine ∧ Q (.int z.length) H) [Dat K (.str z)] (Dat K (.int z.length)) := fun G H vs e p Q q => by
  match vs, p with
  | [v], ⟨p1, _⟩ =>
    obtain rfl := Rp.isStr p1
    exact ⟨z, rfl, hz, q _ G H (Gr.refl e) (.int _)⟩
theorem cb_abs {i : Int} : CbE (fun xs H Q => ∃ i, xs = [.int i] ∧ Q (.int (if i < 0 then -i else i)) H) [Dat K (.int i)] (Dat K (.int (if i < 0 then -i else i))) := fun G H vs e p Q q => by
  match vs, p with
  | [v], ⟨p1, _⟩ =>
    obtain rfl := Rp.isInt p1
    exact ⟨i, rfl, q _ G H (Gr.refl e) (.int _)⟩
theorem cb_int {i : Int} : CbE (fun xs H Q => (∃ i, xs = [.int i] ∧ Q (.int i) H) ∨ ∃ k, xs = [.bl k] ∧ Q (.int (if k then 1 else 0)) H) [Dat K (.int i)] (Dat K (.int i)) := fun G H vs e p Q q => by
  match vs, p with
  | [v], ⟨p1, _⟩ =>
    obtain rfl := Rp.isInt p1
    exact .inl ⟨i, rfl, q _ G H (Gr.refl e) (.int _)⟩
theorem cb_max2 {i j : Int} : CbE (fun xs H Q => ∃ i j, xs = [.int i, .int j] ∧ Q (.int (if j > i then j else i)) H) [Dat K (.int i), Dat K (.int j)] (Dat K (.int (if j > i then j else i))) := fun G H vs e p Q q => by
  match vs, p with
  | [v, u], ⟨p1, p2, _⟩ =>
    obtain rfl := Rp.isInt p1
    obtain rfl := Rp.isInt p2
    exact ⟨i, j, rfl, q _ G H (Gr.refl e) (.int _)⟩
theorem cb_gcd {i j : Int} : CbE rGcd [Dat K (.int i), Dat K (.int j)] (Dat K (.int ((Nat.gcd i.natAbs j.natAbs : Nat) : Int))) := fun G H vs e p Q q => by
  match vs, p with
  | [v, u], ⟨p1, p2, _⟩ =>
    obtain rfl := Rp.isInt p1
    obtain rfl := Rp.isInt p2
    exact ⟨i, j, rfl, q _ G H (Gr.refl e) (.int _)⟩
/-- the least, the greatest of a list that isn't empty -/
def IsMin (m : Int) (ns : List Int) : Prop := m ∈ ns ∧ ∀ y ∈ ns, m ≤ y
def IsMax (m : Int) (ns : List Int) : Prop := m ∈ ns ∧ ∀ y ∈ ns, y ≤ m
theorem IsMin.uniq {m k : Int} {ns : List Int} (a : IsMin m ns) (b : IsMin k ns) : m = k := Int.le_antisymm (a.2 k b.1) (b.2 m a.1)
theorem IsMax.uniq {m k : Int} {ns : List Int} (a : IsMax m ns) (b : IsMax k ns) : m = k := Int.le_antisymm (b.2 m a.1) (a.2 k b.1)
theorem cb_min {ns : List Int} {m : Int} (hm : IsMin m ns) : CbE (rMin K) [Dat K (.list (ns.map .int))] (Dat K (.int m)) := fun G H vs e p Q q => by
  match vs, p with
  | [v], ⟨p1, _⟩ =>
    obtain ⟨a, xs, h1, h2, h3⟩ := Rp.isLst p1
    subst h1
    obtain rfl := RpA.ints h3
    refine ⟨a, ns, rfl, SqL.of (e _ _ h2), List.length_pos_of_mem hm.1, fun k k1 k2 => ?_⟩
    obtain rfl := hm.uniq ⟨k1, k2⟩
    exact q _ G H (Gr.refl e) (.int _)
theorem cb_max {ns : List Int} {m : Int} (hm : IsMax m ns) : CbE (rMax K) [Dat K (.list (ns.map .int))] (Dat K (.int m)) := fun G H vs e p Q q => by
  match vs, p with
  | [v], ⟨p1, _⟩ =>
    obtain ⟨a, xs, h1, h2, h3⟩ := Rp.isLst p1
    subst h1
    obtain rfl := RpA.ints h3
    refine ⟨a, ns, rfl, SqL.of (e _ _ h2), List.length_pos_of_mem hm.1, fun k k1 k2 => ?_⟩
    obtain rfl := hm.uniq ⟨k1, k2⟩
    exact q _ G H (Gr.refl e) (.int _)
theorem cb_all {bs : List Bool} : CbE (rAll K) [Dat K (.list (bs.map .bool))] (Dat K (.bool (bs.all id))) := fun G H vs e p Q q => by
  match vs, p with
  | [v], ⟨p1, _⟩ =>
    obtain ⟨a, xs, h1, h2, h3⟩ := Rp.isLst p1
    subst h1
    obtain rfl := RpA.bls h3
    exact ⟨a, bs, rfl, SqL.of (e _ _ h2), q _ G H (Gr.refl e) (.bl _)⟩
/-- tuple(a list) -/
theorem cb_tupleL {ds : List PyData} : CbE (fun xs H Q => ∃ p ys, xs = [.ref p] ∧ ((SqL K H p ys ∧ ∀ l, H l = none → Q (.ref l) (upd H l (.tup ys))) ∨ (SqT K H p ys ∧ Q (.ref p) H))) [Dat K (.list ds)] (Dat K (.tuple ds)) := fun G H vs e p Q q => by
  match vs, p with
  | [v], ⟨p1, _⟩ =>
    obtain ⟨a, xs, h1, h2, h3⟩ := Rp.isLst p1
    subst h1
    exact ⟨a, xs, rfl, .inl ⟨SqL.of (e _ _ h2), fun l hl => q _ (upd G l (.tup xs)) _ (Gr.new e hl) (.tup (SqT.of upd_same) (RpA.mono (sm_new (sm_back e hl)) _ _ h3))⟩⟩
theorem cb_tupleT {ds : List PyData} : CbE (fun xs H Q => ∃ p ys, xs = [.ref p] ∧ ((SqL K H p ys ∧ ∀ l, H l = none → Q (.ref l) (upd H l (.tup ys))) ∨ (SqT K H p ys ∧ Q (.ref p) H))) [Dat K (.tuple ds)] (Dat K (.tuple ds)) := fun G H vs e p Q q => by
  match vs, p with
  | [v], ⟨p1, _⟩ =>
    obtain ⟨a, xs, h1, h2, h3⟩ := Rp.isTup p1
    subst h1
    exact ⟨a, xs, rfl, .inr ⟨sm_tup e h2, q _ G H (Gr.refl e) p1⟩⟩
/-! ### == of data -/
theorem ev_eqD {d d' : PyData} (ha : EvR ta Δ (Dat K d)) (hb : EvR tb Δ (Dat K d')) (s1 : SeqAt.shaped d = true) (s2 : SeqAt.shaped d' = true) : EvR (tOp (rEqD K) ta tb) Δ (Dat K (.bool (PyData.eqv d d'))) := ev_op ha hb fun G H x y e p1 p2 Q q =>
  ⟨d, d', Rp.dp _ _ (Rp.mono e _ _ p1), Rp.dp _ _ (Rp.mono e _ _ p2), s1, s2, q _ G H (Gr.refl e) (.bl _)⟩
theorem ev_neD {d d' : PyData} (ha : EvR ta Δ (Dat K d)) (hb : EvR tb Δ (Dat K d')) (s1 : SeqAt.shaped d = true) (s2 : SeqAt.shaped d' = true) : EvR (tOp (rNeD K) ta tb) Δ (Dat K (.bool (!PyData.eqv d d'))) := ev_op ha hb fun G H x y e p1 p2 Q q =>
  ⟨d, d', Rp.dp _ _ (Rp.mono e _ _ p1), Rp.dp _ _ (Rp.mono e _ _ p2), s1, s2, q _ G H (Gr.refl e) (.bl _)⟩
/-- x in a tuple of written ints -/
theorem RpA.flat {G : Hp} : ∀ {vs : List V} {ns : List Int}, RpA K G vs (ns.map .int) → vs.all flatV = true := fun {vs ns} h => by
  rw [RpA.ints h, List.all_map]
  exact List.all_eq_true.mpr fun _ _ => rfl
theorem inV_ints {i : Int} (ns : List Int) : inV (.int i) (ns.map V.int) = decide (i ∈ ns) := by
  unfold inV
  rw [List.any_map]
  have e : ((fun y => eqV y (.int i)) ∘ V.int) = fun j => decide (j = i) := by
    funext j
    show (j == i) = decide (j = i)
    exact Bool.beq_eq_decide_eq j i
  rw [e, List.any_eq]
  simp
theorem ev_inI {i : Int} {ns : List Int} (ha : EvR ta Δ (Dat K (.int i))) (hb : EvR tb Δ (Dat K (.tuple (ns.map .int)))) : EvR (tOp (rIn K false) ta tb) Δ (Dat K (.bool (decide (i ∈ ns)))) := ev_op ha hb fun G H x y e p1 p2 Q q => by
  obtain ⟨a, xs, h1, h2, h3⟩ := Rp.isTup p2
  subst h1
  obtain rfl := Rp.isInt p1
  refine ⟨a, xs, rfl, .inr (sm_tup e h2), rfl, h3.flat, q _ G H (Gr.refl e) ?_⟩
  rw [RpA.ints h3, inV_ints, if_neg Bool.false_ne_true]
  exact .bl _
theorem ev_inIL {i : Int} {ns : List Int} (ha : EvR ta Δ (Dat K (.int i))) (hb : EvR tb Δ (Dat K (.list (ns.map .int)))) : EvR (tOp (rIn K false) ta tb) Δ (Dat K (.bool (decide (i ∈ ns)))) := ev_op ha hb fun G H x y e p1 p2 Q q => by
  obtain ⟨a, xs, h1, h2, h3⟩ := Rp.isLst p2
  subst h1
  obtain rfl := Rp.isInt p1
  refine ⟨a, xs, rfl, .inl (SqL.of (e _ _ h2)), rfl, h3.flat, q _ G H (Gr.refl e) ?_⟩
  rw [RpA.ints h3, inV_ints, if_neg Bool.false_ne_true]
  exact .bl _
/-! ### truth of a list -/
theorem et_truL {ds : List PyData} (ha : EvR ta Δ (Dat K (.list ds))) : EvT (fun σ H Q => ta σ H fun x H' => ∃ k, TruV K x H' k ∧ Q k H') Δ (!ds.isEmpty) := fun H0 G H σ e e0 S Q q =>
  ha H0 G H σ e e0 S _ fun x G1 H1 g1 p1 => by
    obtain ⟨a, xs, h1, h2, h3⟩ := Rp.isLst p1
    subst h1
    refine ⟨_, .inl ⟨xs, SqL.of (g1.gh _ _ h2), rfl⟩, ?_⟩
    have e2 : xs.isEmpty = ds.isEmpty := by
      cases h3 <;> rfl
    rw [e2]
    exact q G1 H1 g1
/-! ### fields -/
/-- an instance of the class at C with these attributes -/
def InsR (C : Addr) (fs : List (Str × RR)) : RR :=
  ⟨fun G v => ∃ a dx fv, v = .ref a ∧ G a = some (.ins C dx fv) ∧ fv.map (·.1) = fs.map (·.1) ∧ Als G (fv.map (·.2)) (fs.map (·.2)), by
    rintro G G' v e ⟨a, dx, fv, h1, h2, h3, h4⟩
    exact ⟨a, dx, fv, h1, e _ _ h2, h3, Als.mono e h4⟩⟩
theorem als_lookup {G : Hp} {f : Str} : ∀ {fv : List (Str × V)} {fs : List (Str × RR)} {R : RR}, fv.map (·.1) = fs.map (·.1) → Als G (fv.map (·.2)) (fs.map (·.2)) → fs.lookup f = some R → ∃ v, fv.lookup f = some v ∧ R.p G v
  | [], [], R, _, _, h => by cases h
  | _ :: _, [], _, e, _, _ => by cases e
  | [], _ :: _, _, e, _, _ => by cases e
  | (g, v) :: fv, (g', R') :: fs, R, e, al, h => by
    rw [List.map_cons, List.map_cons] at e
    have e1 : g = g' := (List.cons.inj e).1
    subst e1
    rw [List.lookup_cons] at h ⊢
    cases z : f == g with
    | true =>
      rw [z] at h
      cases Option.some.inj h
      exact ⟨v, rfl, al.1⟩
    | false =>
      rw [z] at h
      exact als_lookup (List.cons.inj e).2 al.2 h
theorem als_lookup_none {G : Hp} {f : Str} : ∀ {fv : List (Str × V)} {fs : List (Str × RR)}, fv.map (·.1) = fs.map (·.1) → fs.lookup f = none → fv.lookup f = none
  | [], [], _, h => rfl
  | _ :: _, [], e, _ => by cases e
  | [], _ :: _, e, _ => by cases e
  | (g, v) :: fv, (g', R') :: fs, e, h => by
    rw [List.map_cons, List.map_cons] at e
    have e1 : g = g' := (List.cons.inj e).1
    subst e1
    rw [List.lookup_cons] at h ⊢
    cases z : f == g with
    | true =>
      rw [z] at h
      cases h
    | false =>
      rw [z] at h
      exact als_lookup_none (G := G) (List.cons.inj e).2 h
theorem ev_fld {C : Addr} {fs : List (Str × RR)} {f : Str} (h : EvR ta Δ (InsR C fs)) (c : Cls K C) (n : NoAttr K C f) (hl : fs.lookup f = some R) : EvR (tFld K ta f) Δ R := fun H0 G H σ e e0 S Q q =>
  h H0 G H σ e e0 S _ fun x G1 H1 g1 p1 => by
    obtain ⟨a, dx, fv, h1, h2, h3, h4⟩ := p1
    obtain ⟨v, h5, h6⟩ := als_lookup h3 h4 hl
    exact ⟨a, C, dx, fv, v, h1, g1.gh _ _ h2, c, n, h5, q v G1 H1 g1 h6⟩
/-! ### calls -/
/-- a def's promise: x, of which pre holds, stands for the arguments; the answer is res x -/
def spOf {α : Type} (args : α → List RR) (pre : α → Prop) (res : α → RR) : Sp := fun vs H Q _ => ∃ (x : α) (G : Hp), pre x ∧ Same G H ∧ Als G vs (args x) ∧ ∀ v G2 H2, Gr G H G2 H2 → (res x).p G2 v → Q v H2
theorem als_app {G : Hp} : ∀ {vs : List V} {Rs : List RR} {ws : List V} {Ss : List RR}, Als G vs Rs → Als G ws Ss → Als G (vs ++ ws) (Rs ++ Ss)
  | [], [], _, _, _, h => h
  | _ :: _, [], _, _, h, _ => h.elim
  | [], _ :: _, _, _, h, _ => h.elim
  | _ :: vs, _ :: Rs, _, _, h, h2 => ⟨h.1, als_app h.2 h2⟩
theorem ev_call {α : Type} {args : α → List RR} {pre : α → Prop} {res : α → RR} {E : XK} {tx : TA} (x : α) (h : EvA tx Δ (args x)) (hp : pre x) : EvR (tCall (spOf args pre res) [] E tx) Δ (res x) := fun H0 G H σ e e0 S Q q =>
  h H0 G H σ e e0 S _ fun xs G1 H1 g1 p1 => by
    rw [List.append_nil]
    exact ⟨x, G1, hp, g1.gh, p1, fun v G2 H2 g2 p2 => q v G2 H2 (g1.trans g2) p2⟩
/-- R0 tells an instance of the class at C without an own attribute m -/
def HasM (C : Addr) (m : Str) (R0 : RR) : Prop := ∀ G v, R0.p G v → ∃ a dx fv, v = .ref a ∧ G a = some (.ins C dx fv) ∧ fv.lookup m = none
theorem hasM_ins {C : Addr} {m : Str} {fs : List (Str × RR)} (hm : fs.lookup m = none) : HasM C m (InsR C fs) := fun G v ⟨a, dx, fv, h1, h2, h3, h4⟩ => ⟨a, dx, fv, h1, h2, als_lookup_none (G := G) h3 hm⟩
theorem ev_meth {α : Type} {args : α → List RR} {pre : α → Prop} {res : α → RR} {E : XK} {tx : TA} {C : Addr} {m : Str} {R0 : RR} {Rs : List RR} (x : α) (ho : EvR ta Δ R0) (hm : HasM C m R0) (h : EvA tx Δ Rs) (hx : args x = R0 :: Rs) (hp : pre x) :
    EvR (tMeth C m (spOf args pre res) [] E ta tx) Δ (res x) := fun H0 G H σ e e0 S Q q =>
  ho H0 G H σ e e0 S _ fun o G1 H1 g1 p1 => by
    obtain ⟨a, dx, fv, h1, h2, h3⟩ := hm G1 o p1
    refine ⟨a, dx, fv, h1, g1.gh _ _ h2, h3, ?_⟩
    refine h H0 G1 H1 σ g1.gh (e0.trans g1.hh) (S.grow g1) _ fun xs G2 H2 g2 p2 => ?_
    rw [List.append_nil]
    refine ⟨x, G2, hp, g2.gh, ?_, fun v G3 H3 g3 p3 => q v G3 H3 ((g1.trans g2).trans g3) p3⟩
    rw [hx]
    exact ⟨R0.mono g2.gg p1, p2⟩
/-- an __init__'s promise: the new instance at x -/
def spInit {α : Type} (C : Addr) (args : α → List RR) (pre : α → Prop) (fs : α → List (Str × RR)) : Sp := fun vs H Q _ => ∃ (x : α) (G H' : Hp) (p dx : Addr) (ws : List V), pre x ∧ Same G H' ∧ H' p = none ∧ H' dx = none ∧ dx ≠ p ∧ vs = .ref p :: ws ∧ H = upd (upd H' dx (.own p)) p (.ins C dx []) ∧ Als G ws (args x) ∧
  ∀ G2 H2, Gr G H' G2 H2 → (InsR C (fs x)).p G2 (.ref p) → Q .non H2
theorem ev_make {α : Type} {C : Addr} {args : α → List RR} {pre : α → Prop} {fs : α → List (Str × RR)} {E : XK} {tx : TA} (x : α) (h : EvA tx Δ (args x)) (hp : pre x) : EvR (tMake C (spInit C args pre fs) [] E tx) Δ (InsR C (fs x)) := fun H0 G H σ e e0 S Q q =>
  h H0 G H σ e e0 S _ fun xs G1 H1 g1 p1 => by
    intro p dx hx hdx hne
    rw [List.append_nil]
    exact ⟨x, G1, H1, p, dx, xs, hp, g1.gh, hx, hdx, hne, rfl, rfl, p1, fun G2 H2 g2 p2 => ⟨rfl, q _ G2 H2 (g1.trans g2) p2⟩⟩
/-- what does not hang on the heap may be asked of an open list -/
theorem ev_peek {i : Nat} {O : OO} {b : PyData} {R' : RR} (hs : ∀ G G' v, Rp K G v b → Rp K G' v b) (ei : Δ[i]? = some (.opn O)) (hR : ∀ (G' : Hp) (a : Addr) (o : HO), O.p G' a o → G' a = some o → R'.p G' (.ref a)) (h : EvR te (Δ.set i (.val R')) (Dat K b)) : EvR te Δ (Dat K b) := fun H0 G H σ e e0 S Q q => by
  obtain ⟨a, o, h1, h2, h3, h4, h5, h6⟩ := S.freeze e ei fun G' a o g p f _ => hR G' a o (O.mono g p) f
  exact h H0 (upd G a o) H σ h5 e0 h6 Q fun v G2 H2 g2 p2 => q v G H2 ⟨g2.hh, Same.refl _, e.trans g2.hh, fun _ _ _ _ z => z⟩ (hs _ _ _ p2)
theorem ev_peekL {i : Nat} {ds : List PyData} {b : PyData} (hs : ∀ G G' v, Rp K G v b → Rp K G' v b) (ei : Δ[i]? = some (.opn (OLst K ds))) (h : EvR te (Δ.set i (.val (Dat K (.list ds)))) (Dat K b)) : EvR te Δ (Dat K b) :=
  ev_peek hs ei (fun G' a o p f => by
    obtain ⟨vs, rfl, r⟩ := p
    exact .lst f r) h
theorem flat_int {i : Int} : ∀ G G' v, Rp K G v (.int i) → Rp K G' v (.int i) := fun G G' v h => by
  obtain rfl := h.isInt
  exact .int i
theorem flat_bl {b : Bool} : ∀ G G' v, Rp K G v (.bool b) → Rp K G' v (.bool b) := fun G G' v h => by
  obtain rfl := h.isBl
  exact .bl b
end DL
/-! D2: statements, loops, comprehensions, defs over data. -/
namespace DL
open PySem PySem.Spec PyProof.Rows L2

/-- what is wanted behind a statement: of the slots (next, break, continue), of the value (return) -/
structure AE where
  nx : List Slot → Prop
  rt : Hp → V → Prop
  bk : List Slot → Prop
  ct : List Slot → Prop
structure AOk (G0 H0 : Hp) (A : AE) (D : Ends) : Prop where
  nx : ∀ (σ : L2.St) (G H : Hp) (Δ : List Slot), Gr G0 H0 G H → Sg H0 G H σ Δ → A.nx Δ → D.nx σ H
  rt : ∀ (v : V) (G H : Hp), Gr G0 H0 G H → A.rt G v → D.rt v H
  bk : ∀ (σ : L2.St) (G H : Hp) (Δ : List Slot), Gr G0 H0 G H → Sg H0 G H σ Δ → A.bk Δ → D.bk σ H
  ct : ∀ (σ : L2.St) (G H : Hp) (Δ : List Slot), Gr G0 H0 G H → Sg H0 G H σ Δ → A.ct Δ → D.ct σ H
def SJ (ts : TS) (Δ : List Slot) (A : AE) : Prop := ∀ (G0 H0 G H : Hp) (σ : L2.St) (D : Ends), Gr G0 H0 G H → Sg H0 G H σ Δ → AOk G0 H0 A D → ts D σ H

variable {K : PySem.W.Frag} {Δ : List Slot} {A : AE} {ta tb te : TE} {R R1 R3 : RR} {t : TT} {tu tw tz : TS}
theorem sj_seq {M : List Slot → Prop} (h1 : SJ tu Δ { A with nx := M }) (h2 : ∀ Δ', M Δ' → SJ tw Δ' A) : SJ (tSeq tu tw) Δ A := fun G0 H0 G H σ D g s a =>
  h1 G0 H0 G H σ { D with nx := tw D } g s ⟨fun σ' G' H' Δ' g' s' m => h2 Δ' m G0 H0 G' H' σ' D g' s' a, a.rt, a.bk, a.ct⟩
theorem sj_seq1 {Δ' : List Slot} (h1 : SJ tu Δ { A with nx := fun x => x = Δ' }) (h2 : SJ tw Δ' A) : SJ (tSeq tu tw) Δ A := sj_seq h1 fun x e => by
  rw [e]
  exact h2
theorem sj_next (h : A.nx Δ) : SJ tNext Δ A := fun G0 H0 G H σ D g s a => a.nx σ G H Δ g s h
theorem sj_seqN (h : SJ tz Δ A) : SJ (tSeq tNext tz) Δ A := h
theorem sj_seqA (h : SJ (tSeq tu (tSeq tw tz)) Δ A) : SJ (tSeq (tSeq tu tw) tz) Δ A := h
theorem sj_ret (h : EvR te Δ R) (hr : ∀ G v, R.p G v → A.rt G v) : SJ (tRet te) Δ A := fun G0 H0 G H σ D g s a =>
  h H0 G H σ g.gh g.hh s _ fun v G1 H1 g1 p1 => a.rt v G1 H1 (g.trans g1) (hr G1 v p1)
/-- return of data -/
theorem sj_retD {d d' : PyData} (h : EvR te Δ (Dat K d)) (hA : A.rt = (Dat K d').p) (e : d = d') : SJ (tRet te) Δ A := sj_ret h fun G v p => by
  rw [hA, ← e]
  exact p
theorem sj_seqR (h : SJ (tRet te) Δ A) : SJ (tSeq (tRet te) tz) Δ A := fun G0 H0 G H σ D g s a =>
  h G0 H0 G H σ { D with nx := fun σ H => ∃ G Δ, Gr G0 H0 G H ∧ Sg H0 G H σ Δ ∧ A.nx Δ } g s ⟨fun σ' G' H' Δ' g' s' m => ⟨G', Δ', g', s', m⟩, a.rt, a.bk, a.ct⟩
theorem sj_asg {i : Nat} (h : EvR te Δ R) (hn : A.nx (Δ.set i (.val R))) : SJ (tAsg te (gName i)) Δ A := fun G0 H0 G H σ D g s a =>
  h H0 G H σ g.gh g.hh s _ fun v G1 H1 g1 p1 => a.nx _ G1 H1 _ (g.trans g1) ((s.grow g1).set p1) hn
theorem q_asg {i : Nat} (h : EvR te Δ R) (hn : SJ tz (Δ.set i (.val R)) A) : SJ (tSeq (tAsg te (gName i)) tz) Δ A := sj_seq1 (sj_asg h rfl) hn
theorem sj_drop (h : EvR te Δ R) (hn : A.nx Δ) : SJ (tDrop te) Δ A := fun G0 H0 G H σ D g s a =>
  h H0 G H σ g.gh g.hh s _ fun v G1 H1 g1 p1 => a.nx _ G1 H1 _ (g.trans g1) (s.grow g1) hn
theorem q_drop (h : EvR te Δ R) (hn : SJ tz Δ A) : SJ (tSeq (tDrop te) tz) Δ A := sj_seq1 (sj_drop h rfl) hn
theorem sj_if {b : Bool} (h : EvT t Δ b) (h1 : b = true → SJ tu Δ A) (h2 : b = false → SJ tw Δ A) : SJ (tIfS t tu tw) Δ A := fun G0 H0 G H σ D g s a =>
  h H0 G H σ g.gh g.hh s _ fun G1 H1 g1 => by
    cases b with
    | true =>
      show tu D σ H1
      exact h1 rfl G0 H0 G1 H1 σ D (g.trans g1) (s.grow g1) a
    | false =>
      show tw D σ H1
      exact h2 rfl G0 H0 G1 H1 σ D (g.trans g1) (s.grow g1) a
theorem q_if {b : Bool} (h : EvT t Δ b) (h1 : b = true → SJ (tSeq tu tz) Δ A) (h2 : b = false → SJ (tSeq tw tz) Δ A) : SJ (tSeq (tIfS t tu tw) tz) Δ A := fun G0 H0 G H σ D g s a =>
  h H0 G H σ g.gh g.hh s _ fun G1 H1 g1 => by
    cases b with
    | true =>
      show tSeq tu tz D σ H1
      exact h1 rfl G0 H0 G1 H1 σ D (g.trans g1) (s.grow g1) a
    | false =>
      show tSeq tw tz D σ H1
      exact h2 rfl G0 H0 G1 H1 σ D (g.trans g1) (s.grow g1) a
/-- an if whose answer is known -/
theorem q_ifT {b : Bool} (h : EvT t Δ b) (hb : b = true) (h1 : SJ (tSeq tu tz) Δ A) : SJ (tSeq (tIfS t tu tw) tz) Δ A := q_if h (fun _ => h1) fun e => by
  rw [hb] at e
  cases e
theorem q_ifF {b : Bool} (h : EvT t Δ b) (hb : b = false) (h1 : SJ (tSeq tw tz) Δ A) : SJ (tSeq (tIfS t tu tw) tz) Δ A := q_if h (fun e => by
  rw [hb] at e
  cases e) fun _ => h1
theorem sj_ifF {b : Bool} (h : EvT t Δ b) (hb : b = false) (h1 : SJ tw Δ A) : SJ (tIfS t tu tw) Δ A := sj_if h (fun e => by
  rw [hb] at e
  cases e) fun _ => h1
theorem sj_ifT {b : Bool} (h : EvT t Δ b) (hb : b = true) (h1 : SJ tu Δ A) : SJ (tIfS t tu tw) Δ A := sj_if h (fun _ => h1) fun e => by
  rw [hb] at e
  cases e

/-! ### targets -/
def Frm (js : List Nat) (σ σ' : L2.St) : Prop := σ'.length = σ.length ∧ ∀ k : Nat, k ∉ js → σ'[k]? = σ[k]?
def GJ (g : TG) (R : RR) (Δ Δ' : List Slot) (js : List Nat) : Prop := ∀ (H0 G H : Hp) (σ : L2.St) (v : V), Same G H → Same H0 H → Sg H0 G H σ Δ → R.p G v → ∀ Q : L2.St → Hp → Prop, (∀ σ', Sg H0 G H σ' Δ' → Frm js σ σ' → Q σ' H) → g v σ H Q
def GJs (g : TGs) (ds : List PyData) (K : PySem.W.Frag) (Δ Δ' : List Slot) (js : List Nat) : Prop := ∀ (H0 G H : Hp) (σ : L2.St) (vs : List V), Same G H → Same H0 H → Sg H0 G H σ Δ → RpA K G vs ds → ∀ Q : L2.St → Hp → Prop, (∀ σ', Sg H0 G H σ' Δ' → Frm js σ σ' → Q σ' H) → g vs σ H Q
theorem frm_refl (σ : L2.St) : Frm [] σ σ := ⟨rfl, fun _ _ => rfl⟩
theorem frm_trans {j1 j2 : List Nat} {σ σ1 σ2 : L2.St} (a : Frm j1 σ σ1) (b : Frm j2 σ1 σ2) : Frm (j1 ++ j2) σ σ2 :=
  ⟨b.1.trans a.1, fun k hk => (b.2 k fun z => hk (List.mem_append_right _ z)).trans (a.2 k fun z => hk (List.mem_append_left _ z))⟩
theorem gj_name {i : Nat} : GJ (gName i) R Δ (Δ.set i (.val R)) [i] := fun H0 G H σ v e e0 S p Q q =>
  q _ (S.set p) ⟨List.length_set, fun k hk => by
    rw [List.getElem?_set_ne]
    intro z
    exact hk (by rw [z]; exact List.mem_cons_self)⟩
theorem gjs_nil : GJs gNil [] K Δ Δ [] := fun H0 G H σ vs e e0 S p Q q => by
  cases p
  exact ⟨rfl, q σ S (frm_refl σ)⟩
theorem gjs_cons {g : TG} {gs : TGs} {d : PyData} {ds : List PyData} {Δ1 Δ2 : List Slot} {j1 j2 : List Nat} (h1 : GJ g (Dat K d) Δ Δ1 j1) (h2 : GJs gs ds K Δ1 Δ2 j2) : GJs (gCons g gs) (d :: ds) K Δ Δ2 (j1 ++ j2) := fun H0 G H σ vs e e0 S p Q q => by
  cases p with
  | cons p1 p2 => exact ⟨_, _, rfl, h1 H0 G H σ _ e e0 S p1 _ fun σ1 S1 f1 => h2 H0 G H σ1 _ e e0 S1 p2 _ fun σ2 S2 f2 => q σ2 S2 (frm_trans f1 f2)⟩
theorem gj_tup {gs : TGs} {ds : List PyData} {Δ' : List Slot} {js : List Nat} {n : Nat} (hn : n = ds.length) (h : GJs gs ds K Δ Δ' js) : GJ (gTup K n gs) (Dat K (.tuple ds)) Δ Δ' js := fun H0 G H σ v e e0 S p Q q => by
  obtain ⟨a, xs, h1, h2, h3⟩ := Rp.isTup p
  exact ⟨a, xs, h1, sm_tup e h2, by rw [hn]; exact h3.length, h H0 G H σ xs e e0 S h3 Q q⟩
theorem sj_asgG {g : TG} {Δ' : List Slot} {js : List Nat} (h : EvR te Δ R) (hg : GJ g R Δ Δ' js) (hn : A.nx Δ') : SJ (tAsg te g) Δ A := fun G0 H0 G H σ D gg s a =>
  h H0 G H σ gg.gh gg.hh s _ fun v G1 H1 g1 p1 => hg H0 G1 H1 σ v g1.gh (gg.trans g1).hh (s.grow g1) p1 _ fun σ' S' _ => a.nx σ' G1 H1 Δ' (gg.trans g1) S' hn
theorem q_asgG {g : TG} {Δ' : List Slot} {js : List Nat} (h : EvR te Δ R) (hg : GJ g R Δ Δ' js) (hn : SJ tz Δ' A) : SJ (tSeq (tAsg te g) tz) Δ A := sj_seq1 (sj_asgG h hg rfl) hn
theorem sj_par {i j : Nat} {tx : TA} (h : EvA tx Δ [R1, R3]) (hn : A.nx ((Δ.set i (.val R1)).set j (.val R3))) : SJ (tPar i j tx) Δ A := fun G0 H0 G H σ D g s a =>
  h H0 G H σ g.gh g.hh s _ fun vs G1 H1 g1 p1 => by
    match vs, p1 with
    | [v, w], ⟨p1, p2, _⟩ => exact ⟨v, w, rfl, a.nx _ G1 H1 _ (g.trans g1) (((s.grow g1).set p1).set p2) hn⟩
theorem q_par {i j : Nat} {tx : TA} (h : EvA tx Δ [R1, R3]) (hn : SJ tz ((Δ.set i (.val R1)).set j (.val R3)) A) : SJ (tSeq (tPar i j tx) tz) Δ A := sj_seq1 (sj_par h rfl) hn

/-! ### lists that are filled -/
theorem sj_new {i : Nat} (hn : A.nx (Δ.set i (.opn (OLst K [])))) : SJ (tAsg (tLst tNil) (gName i)) Δ A := fun G0 H0 G H σ D g s a =>
  ⟨Nat.zero_le _, fun p hp => a.nx _ G _ _ (g.trans (Gr.newO g.gh hp)) (s.setO (O := OLst K []) g.gh g.hh hp ⟨[], rfl, .nil⟩) hn⟩
theorem q_new {i : Nat} (hn : SJ tz (Δ.set i (.opn (OLst K []))) A) : SJ (tSeq (tAsg (tLst tNil) (gName i)) tz) Δ A := sj_seq1 (sj_new rfl) hn
theorem gr_mut {G0 H0 G H : Hp} {a : Addr} {o : HO} (g : Gr G0 H0 G H) (hg : G a = none) (h0 : H0 a = none) : Gr G0 H0 G (upd H a o) := ⟨sm_mut g.hh h0, g.gg, sm_mut g.gh hg, g.nw⟩
theorem sj_app {i : Nat} {ds : List PyData} {d : PyData} (ei : Δ[i]? = some (.opn (OLst K ds))) (h : EvR te Δ (Dat K d)) (hl : ds.length < sizeLine) (hn : A.nx (Δ.set i (.opn (OLst K (ds ++ [d]))))) : SJ (tDrop (tBM K "list" rAppend (tVar i) (tCons te tNil))) Δ A := fun G0 H0 G H σ D g s a => by
  obtain ⟨p, o, h1, h2, h3, h4, vs, rfl, h5⟩ := s.opn ei
  refine ⟨.ref p, h1, Or.inl ⟨rfl, vs, SqL.of h4⟩, h H0 G H σ g.gh g.hh s _ fun v G1 H1 g1 p1 => ?_⟩
  have k2 : G1 p = none := g1.nw p _ h4 rfl h2
  have k4 : H1 p = some (.lst vs) := g1.hh p _ h4
  refine ⟨p, vs, v, rfl, rfl, k4, by rw [h5.length]; exact hl, ?_⟩
  exact a.nx σ G1 _ _ (gr_mut (g.trans g1) k2 h3) ((s.grow g1).mut (O1 := OLst K (ds ++ [d])) ei h1 k2 h3 ⟨_, rfl, RpA.append (RpA.mono g1.gg _ _ h5) (.cons p1 .nil)⟩) hn
theorem q_app {i : Nat} {ds : List PyData} {d : PyData} (ei : Δ[i]? = some (.opn (OLst K ds))) (h : EvR te Δ (Dat K d)) (hl : ds.length < sizeLine) (hn : SJ tz (Δ.set i (.opn (OLst K (ds ++ [d])))) A) : SJ (tSeq (tDrop (tBM K "list" rAppend (tVar i) (tCons te tNil))) tz) Δ A :=
  sj_seq1 (sj_app ei h hl rfl) hn
theorem gr_frz {G0 H0 G H : Hp} {a : Addr} {o : HO} (g : Gr G0 H0 G H) (h0 : H0 a = none) (e1 : Same G (upd G a o)) (e2 : Same (upd G a o) H) : Gr G0 H0 (upd G a o) H := ⟨g.hh, g.gg.trans e1, e2, fun b u x t z => by
  rw [upd_ne (ne_of_none x h0)]
  exact g.nw b u x t z⟩
theorem sj_frzO {i : Nat} {O : OO} {R' : RR} (ei : Δ[i]? = some (.opn O)) (hR : ∀ (G' : Hp) (a : Addr) (o : HO), O.p G' a o → G' a = some o → R'.p G' (.ref a)) (h : SJ tu (Δ.set i (.val R')) A) : SJ tu Δ A := fun G0 H0 G H σ D g s a => by
  obtain ⟨p, o, h1, h2, h3, h4, h5, h6⟩ := s.freeze g.gh ei fun G' a o z p f _ => hR G' a o (O.mono z p) f
  exact h G0 H0 _ H σ D (gr_frz g h2 h4 h5) h6 a
theorem sj_frz {i : Nat} {ds : List PyData} (ei : Δ[i]? = some (.opn (OLst K ds))) (h : SJ tu (Δ.set i (.val (Dat K (.list ds)))) A) : SJ tu Δ A := sj_frzO ei (fun G' a o p f => by
  obtain ⟨vs, rfl, r⟩ := p
  exact .lst f r) h
/-! ### what is known, told otherwise -/
theorem sj_ex {α : Type} {i : Nat} {Rf : α → RR} (ei : Δ[i]? = some (.val (ExR Rf))) (h : ∀ x, SJ tu (Δ.set i (.val (Rf x))) A) : SJ tu Δ A := fun G0 H0 G H σ D g s a => by
  obtain ⟨v, h1, x, h2⟩ := s.val ei
  have S' : Sg H0 G H σ (Δ.set i (.val (Rf x))) := by
    refine ⟨by rw [List.length_set]; exact s.len, fun j s' e' => ?_, fun j k O' O'' b hjk e1 e2 e3 e4 => ?_⟩
    · rcases get_set e' with ⟨e1, e2, hl⟩ | ⟨e1, e2⟩
      · subst e1; subst e2
        exact ⟨_, h1, v, rfl, h2⟩
      · exact s.ok j s' e2
    · rcases get_set e1 with ⟨_, z, _⟩ | ⟨n1, f1⟩
      · cases z
      · rcases get_set e2 with ⟨_, z, _⟩ | ⟨n2, f2⟩
        · cases z
        · exact s.dis j k O' O'' b hjk f1 f2 e3 e4
  exact h x G0 H0 G H σ D g S' a
theorem sj_and {c : Prop} {i : Nat} {R' : RR} (ei : Δ[i]? = some (.val (AndR c R'))) (h : c → SJ tu (Δ.set i (.val R')) A) : SJ tu Δ A := fun G0 H0 G H σ D g s a => by
  obtain ⟨v, h1, h2, h3⟩ := s.val ei
  exact h h2 G0 H0 G H σ D g (s.sub ei fun v p => p.2) a
theorem sj_sub {i : Nat} {R' : RR} (ei : Δ[i]? = some (.val R)) (hs : ∀ G v, R.p G v → R'.p G v) (h : SJ tu (Δ.set i (.val R')) A) : SJ tu Δ A := fun G0 H0 G H σ D g s a => h G0 H0 G H σ D g (s.sub ei (hs G)) a

/-! ### loops -/
theorem aok_in {G0 H0 G1 H1 : Hp} {A : AE} {D : Ends} {M N : List Slot → Prop} {MM NN : L2.St → Hp → Prop} (g : Gr G0 H0 G1 H1) (a : AOk G0 H0 A D)
    (hM : ∀ (σ : L2.St) (G H : Hp) (Δ : List Slot), Gr G1 H0 G H → Sg H0 G H σ Δ → M Δ → MM σ H) : AOk G1 H0 ⟨M, A.rt, A.nx, M⟩ { D with nx := MM, ct := MM, bk := D.nx } :=
  ⟨hM, fun v G H z p => a.rt v G H (g.trans0 z) p, fun σ G H Δ z s p => a.nx σ G H Δ (g.trans0 z) s p, hM⟩
/-- for target in a list: P holds of the slots at each turn -/
theorem sj_forL {tl : TE} {g : TG} {ds : List PyData} (hl : EvR tl Δ (Dat K (.list ds))) (P : Nat → List Slot → Prop) (h0 : P 0 Δ)
    (hs : ∀ (i : Nat) (d : PyData) (Δ' : List Slot), ds[i]? = some d → P i Δ' → ∃ Δ'' js, GJ g (Dat K d) Δ' Δ'' js ∧ SJ tu Δ'' ⟨P (i + 1), A.rt, A.nx, P (i + 1)⟩)
    (hd : ∀ Δ', P ds.length Δ' → A.nx Δ') : SJ (tFor (iList K tl) g tu) Δ A := fun G0 H0 G H σ D gg s a =>
  hl H0 G H σ gg.gh gg.hh s _ fun v G1 H1 g1 p1 => by
    obtain ⟨b, xs, rfl, h2, h3⟩ := Rp.isLst p1
    have gA : Gr G0 H0 G1 H1 := gg.trans g1
    refine ⟨b, rfl, ⟨xs, SqL.of (g1.gh _ _ h2)⟩, for_list (K := K) (xs := xs) (fun i σ' H' => ∃ G' Δ', Gr G1 H0 G' H' ∧ Sg H0 G' H' σ' Δ' ∧ P i Δ') ⟨G1, Δ, ⟨gA.hh, Same.refl _, g1.gh, fun _ _ _ _ z => z⟩, s.grow g1, h0⟩ ?_ ?_ ?_⟩
    · rintro i σ' H' _ ⟨G', Δ', z, _, _⟩
      exact SqL.of (z.gh _ _ (z.gg _ _ h2))
    · rintro i x σ' H' hx ⟨G', Δ', z, s', p'⟩
      obtain ⟨d, hd1, hd2⟩ := h3.getV hx
      obtain ⟨Δ'', js, hg, hb⟩ := hs i d Δ' hd1 p'
      refine hg H0 G' H' σ' x z.gh z.hh s' (Rp.mono z.gg _ _ hd2) _ fun σ2 S2 _ => ?_
      exact hb G1 H0 G' H' σ2 _ z S2 (aok_in (M := P (i + 1)) (N := P (i + 1)) (NN := fun _ _ => True) gA a fun σ3 G3 H3 Δ3 z3 s3 p3 => ⟨G3, Δ3, z3, s3, p3⟩)
    · rintro σ' H' ⟨G', Δ', z, s', p'⟩
      rw [h3.length] at p'
      exact a.nx σ' G' H' Δ' (gA.trans0 z) s' (hd Δ' p')
theorem sj_forT {tl : TE} {g : TG} {ds : List PyData} (hl : EvR tl Δ (Dat K (.tuple ds))) (P : Nat → List Slot → Prop) (h0 : P 0 Δ)
    (hs : ∀ (i : Nat) (d : PyData) (Δ' : List Slot), ds[i]? = some d → P i Δ' → ∃ Δ'' js, GJ g (Dat K d) Δ' Δ'' js ∧ SJ tu Δ'' ⟨P (i + 1), A.rt, A.nx, P (i + 1)⟩)
    (hd : ∀ Δ', P ds.length Δ' → A.nx Δ') : SJ (tFor (iTup K tl) g tu) Δ A := fun G0 H0 G H σ D gg s a =>
  hl H0 G H σ gg.gh gg.hh s _ fun v G1 H1 g1 p1 => by
    obtain ⟨b, xs, rfl, h2, h3⟩ := Rp.isTup p1
    have gA : Gr G0 H0 G1 H1 := gg.trans g1
    refine ⟨b, rfl, ⟨xs, sm_tup g1.gh h2⟩, for_tup (K := K) (xs := xs) (fun i σ' H' => ∃ G' Δ', Gr G1 H0 G' H' ∧ Sg H0 G' H' σ' Δ' ∧ P i Δ') ⟨G1, Δ, ⟨gA.hh, Same.refl _, g1.gh, fun _ _ _ _ z => z⟩, s.grow g1, h0⟩ ?_ ?_ ?_⟩
    · rintro i σ' H' _ ⟨G', Δ', z, _, _⟩
      exact sm_tup z.gh (sm_tup z.gg h2)
    · rintro i x σ' H' hx ⟨G', Δ', z, s', p'⟩
      obtain ⟨d, hd1, hd2⟩ := h3.getV hx
      obtain ⟨Δ'', js, hg, hb⟩ := hs i d Δ' hd1 p'
      refine hg H0 G' H' σ' x z.gh z.hh s' (Rp.mono z.gg _ _ hd2) _ fun σ2 S2 _ => ?_
      exact hb G1 H0 G' H' σ2 _ z S2 (aok_in (M := P (i + 1)) (N := P (i + 1)) (NN := fun _ _ => True) gA a fun σ3 G3 H3 Δ3 z3 s3 p3 => ⟨G3, Δ3, z3, s3, p3⟩)
    · rintro σ' H' ⟨G', Δ', z, s', p'⟩
      rw [h3.length] at p'
      exact a.nx σ' G' H' Δ' (gA.trans0 z) s' (hd Δ' p')
theorem range_in {g : TG} {lo : Int} {n : Nat} {G0 H0 G1 H1 : Hp} {σ : L2.St} {D : Ends} (gA : Gr G0 H0 G1 H1) (e1 : Same G1 H1) (s1 : Sg H0 G1 H1 σ Δ) (a : AOk G0 H0 A D) (P : Nat → List Slot → Prop) (h0 : P 0 Δ)
    (hs : ∀ (i : Nat) (Δ' : List Slot), i < n → P i Δ' → ∃ Δ'' js, GJ g (Dat K (.int (lo + (i : Int)))) Δ' Δ'' js ∧ SJ tu Δ'' ⟨P (i + 1), A.rt, A.nx, P (i + 1)⟩)
    (hd : ∀ Δ', P n Δ' → A.nx Δ') : ∃ W : Nat → Nat → L2.St → Hp → Prop, (∃ m, W 0 m σ H1) ∧ ∀ i m σ H, W i m σ H →
      ((Itr lo n).stop i H ∧ D.nx σ H) ∨ ((Itr lo n).go i H ∧ ∃ N : L2.St → Hp → Prop, (∀ σ' H', N σ' H' → ∃ m', m' < m ∧ W (i + 1) m' σ' H') ∧ ∀ x H', (Itr lo n).yld i H x H' → g x σ H' fun σ2 H2 => tu { D with nx := N, ct := N, bk := D.nx } σ2 H2) := by
  refine for_range (lo := lo) (n := n) (fun i σ' H' => ∃ G' Δ', Gr G1 H0 G' H' ∧ Sg H0 G' H' σ' Δ' ∧ P i Δ') ⟨G1, Δ, ⟨gA.hh, Same.refl _, e1, fun _ _ _ _ z => z⟩, s1, h0⟩ ?_ ?_
  · rintro i σ' H' hi ⟨G', Δ', z, s', p'⟩
    obtain ⟨Δ'', js, hg, hb⟩ := hs i Δ' hi p'
    refine hg H0 G' H' σ' _ z.gh z.hh s' (.int _) _ fun σ2 S2 _ => ?_
    exact hb G1 H0 G' H' σ2 _ z S2 (aok_in (M := P (i + 1)) (N := P (i + 1)) (NN := fun _ _ => True) gA a fun σ3 G3 H3 Δ3 z3 s3 p3 => ⟨G3, Δ3, z3, s3, p3⟩)
  · rintro σ' H' ⟨G', Δ', z, s', p'⟩
    exact a.nx σ' G' H' Δ' (gA.trans0 z) s' (hd Δ' p')
theorem sj_forR1 {tx : TA} {g : TG} {n : Int} (hl : EvA tx Δ [Dat K (.int n)]) (hn : -(2 ^ 62) ≤ n ∧ n < 2 ^ 62) (P : Nat → List Slot → Prop) (h0 : P 0 Δ)
    (hs : ∀ (i : Nat) (Δ' : List Slot), i < n.toNat → P i Δ' → ∃ Δ'' js, GJ g (Dat K (.int (i : Int))) Δ' Δ'' js ∧ SJ tu Δ'' ⟨P (i + 1), A.rt, A.nx, P (i + 1)⟩)
    (hd : ∀ Δ', P n.toNat Δ' → A.nx Δ') : SJ (tFor (iRng1 tx) g tu) Δ A := fun G0 H0 G H σ D gg s a =>
  hl H0 G H σ gg.gh gg.hh s _ fun vs G1 H1 g1 p1 => by
    match vs, p1 with
    | [v], ⟨p1, _⟩ =>
      obtain rfl := Rp.isInt p1
      exact ⟨n, rfl, hn.1, hn.2, range_in (K := K) (gg.trans g1) g1.gh (s.grow g1) a P h0 (fun i Δ' hi p => by
        rw [Int.zero_add]
        exact hs i Δ' hi p) hd⟩
theorem sj_forR2 {tx : TA} {g : TG} {lo n : Int} (hl : EvA tx Δ [Dat K (.int lo), Dat K (.int n)]) (hn : -(2 ^ 62) ≤ lo ∧ lo < 2 ^ 62 ∧ -(2 ^ 62) ≤ n ∧ n < 2 ^ 62) (P : Nat → List Slot → Prop) (h0 : P 0 Δ)
    (hs : ∀ (i : Nat) (Δ' : List Slot), i < (n - lo).toNat → P i Δ' → ∃ Δ'' js, GJ g (Dat K (.int (lo + (i : Int)))) Δ' Δ'' js ∧ SJ tu Δ'' ⟨P (i + 1), A.rt, A.nx, P (i + 1)⟩)
    (hd : ∀ Δ', P (n - lo).toNat Δ' → A.nx Δ') : SJ (tFor (iRng2 tx) g tu) Δ A := fun G0 H0 G H σ D gg s a =>
  hl H0 G H σ gg.gh gg.hh s _ fun vs G1 H1 g1 p1 => by
    match vs, p1 with
    | [v, u], ⟨p1, p2, _⟩ =>
      obtain rfl := Rp.isInt p1
      obtain rfl := Rp.isInt p2
      exact ⟨lo, n, rfl, hn, range_in (K := K) (gg.trans g1) g1.gh (s.grow g1) a P h0 hs hd⟩
theorem sj_while (P : Nat → List Slot → Prop) (m0 : Nat) (h0 : P m0 Δ)
    (hs : ∀ (m : Nat) (Δ' : List Slot), P m Δ' → ∃ b, EvT t Δ' b ∧ (b = true → SJ tu Δ' ⟨fun x => ∃ m', m' < m ∧ P m' x, A.rt, A.nx, fun x => ∃ m', m' < m ∧ P m' x⟩) ∧ (b = false → A.nx Δ')) : SJ (tWhile t tu) Δ A := fun G0 H0 G H σ D gg s a => by
  refine ⟨fun m σ' H' => ∃ G' Δ', Gr G0 H0 G' H' ∧ Sg H0 G' H' σ' Δ' ∧ P m Δ', ⟨m0, G, Δ, gg, s, h0⟩, ?_⟩
  rintro m σ' H' ⟨G', Δ', z, s', p'⟩
  obtain ⟨b, ht, h1, h2⟩ := hs m Δ' p'
  refine ht H0 G' H' σ' z.gh z.hh s' _ fun G2 H2 g2 => ?_
  cases b with
  | true =>
    rw [if_pos rfl]
    refine ⟨fun σ3 H3 => ∃ G3 Δ3, Gr G0 H0 G3 H3 ∧ Sg H0 G3 H3 σ3 Δ3 ∧ ∃ m', m' < m ∧ P m' Δ3, ?_, ?_⟩
    · rintro σ3 H3 ⟨G3, Δ3, z3, s3, m', hm, p3⟩
      exact ⟨m', hm, G3, Δ3, z3, s3, p3⟩
    · exact h1 rfl G0 H0 G2 H2 σ' _ (z.trans g2) (s'.grow g2) ⟨fun σ3 G3 H3 Δ3 z3 s3 p3 => ⟨G3, Δ3, z3, s3, p3⟩, a.rt, a.nx, fun σ3 G3 H3 Δ3 z3 s3 p3 => ⟨G3, Δ3, z3, s3, p3⟩⟩
  | false =>
    rw [if_neg Bool.false_ne_true]
    exact a.nx σ' G2 H2 Δ' (z.trans g2) (s'.grow g2) (h2 rfl)

/-! ### comprehensions -/
theorem wipe_get {σ : L2.St} {k : Nat} : ∀ {vs : List Nat}, (L2.wipe σ vs)[k]? = if k ∈ vs then (if k < σ.length then some none else none) else σ[k]?
  | [] => by
    rw [if_neg (by simp)]
    rfl
  | v :: vs => by
    show ((L2.wipe σ vs).set v none)[k]? = _
    by_cases e : k = v
    · subst e
      rw [if_pos List.mem_cons_self]
      by_cases hl : k < σ.length
      · rw [if_pos hl, List.getElem?_set_self (by rw [wipe_length]; exact hl)]
      · rw [if_neg hl]
        exact List.getElem?_eq_none (by rw [List.length_set, wipe_length]; omega)
    · rw [List.getElem?_set_ne (Ne.symm e), wipe_get (vs := vs)]
      by_cases hm : k ∈ vs
      · rw [if_pos hm, if_pos (List.mem_cons_of_mem _ hm)]
      · rw [if_neg hm, if_neg]
        intro z
        rcases List.mem_cons.mp z with z | z
        · exact e z
        · exact hm z
theorem wipe_frm {σ σ2 : L2.St} {js vs : List Nat} (f : Frm js (L2.wipe σ vs) σ2) (hj : ∀ j ∈ js, j ∈ vs) : L2.wipe σ2 vs = L2.wipe σ vs := by
  refine List.ext_getElem? fun k => ?_
  have hl : σ2.length = σ.length := by rw [f.1, wipe_length]
  rw [wipe_get, wipe_get, hl]
  by_cases hm : k ∈ vs
  · rw [if_pos hm, if_pos hm]
  · rw [if_neg hm, if_neg hm, f.2 k fun z => hm (hj k z), wipe_get, if_neg hm]
/-- in the midst of a comprehension: the new list at C -/
def LcIn (K : PySem.W.Frag) (G1 H1 : Hp) (C : Addr) (ds : List PyData) (H' : Hp) : Prop := ∃ G' vs, Gr G1 H1 G' H' ∧ G' C = none ∧ H' C = some (.lst vs) ∧ RpA K G' vs ds
/-- one turn -/
theorem lc_turn {H0 G1 H1 H' : Hp} {C : Addr} {σ : L2.St} {acc : List PyData} {vs js : List Nat} {g : TG} {d e : PyData} {b : Bool} {x : V} {Δ'' : List Slot} (hC : H1 C = none) (e1 : Same G1 H1) (e0 : Same H0 H1) (s1 : Sg H0 G1 H1 σ Δ) (hx : Rp K G1 x d)
    (hg : GJ g (Dat K d) (wipeD Δ vs) Δ'' js) (hj : ∀ j ∈ js, j ∈ vs) (ht : EvT t Δ'' b) (he : b = true → EvR te Δ'' (Dat K e)) (hz : acc.length < sizeLine) (h : LcIn K G1 H1 C acc H') :
    g x (L2.wipe σ vs) H' fun σ2 H2 => L2.wipe σ2 vs = L2.wipe σ vs ∧ t σ2 H2 fun c H3 =>
      if c = true then te σ2 H3 fun y H4 => ∃ acc', H4 C = some (.lst acc') ∧ acc'.length < sizeLine ∧ LcIn K G1 H1 C (acc ++ (if b = true then [e] else [])) (upd H4 C (.lst (acc' ++ [y])))
      else LcIn K G1 H1 C (acc ++ (if b = true then [e] else [])) H3 := by
  obtain ⟨G', ws, z, h1, h2, h3⟩ := h
  refine hg H0 G' H' _ x z.gh (e0.trans z.hh) ((s1.grow z).wipe vs) (Rp.mono z.gg _ _ hx) _ fun σ2 S2 f2 => ⟨wipe_frm f2 hj, ?_⟩
  refine ht H0 G' H' σ2 z.gh (e0.trans z.hh) S2 _ fun G2 H2 g2 => ?_
  have k1 : G2 C = none := g2.nw C _ h2 rfl h1
  have k2 : H2 C = some (.lst ws) := g2.hh C _ h2
  cases b with
  | true =>
    rw [if_pos rfl, if_pos rfl]
    refine he rfl H0 G2 H2 σ2 g2.gh ((e0.trans z.hh).trans g2.hh) (S2.grow g2) _ fun y G3 H3 g3 p3 => ?_
    have m1 : G3 C = none := g3.nw C _ k2 rfl k1
    have m2 : H3 C = some (.lst ws) := g3.hh C _ k2
    have zz := (z.trans g2).trans g3
    refine ⟨ws, m2, by rw [h3.length]; exact hz, G3, ws ++ [y], ⟨sm_mut zz.hh hC, zz.gg, sm_mut zz.gh m1, zz.nw⟩, m1, upd_same, RpA.append (RpA.mono (g2.gg.trans g3.gg) _ _ h3) (.cons p3 .nil)⟩
  | false =>
    rw [if_neg Bool.false_ne_true, if_neg Bool.false_ne_true, List.append_nil]
    exact ⟨G2, ws, z.trans g2, k1, k2, RpA.mono g2.gg _ _ h3⟩
theorem lc_start {G1 H1 : Hp} {C : Addr} (e1 : Same G1 H1) (hC : H1 C = none) : LcIn K G1 H1 C [] (upd H1 C (.lst [])) := ⟨G1, [], Gr.newO e1 hC, sm_back e1 hC, upd_same, .nil⟩
theorem lc_end {G H G1 H1 H' : Hp} {C : Addr} {ds : List PyData} {Q : VK} (g : Gr G H G1 H1) (hC : H1 C = none) (q : ∀ v G2 H2, Gr G H G2 H2 → (Dat K (.list ds)).p G2 v → Q v H2) (h : LcIn K G1 H1 C ds H') : Q (.ref C) H' := by
  obtain ⟨G', ws, z, h1, h2, h3⟩ := h
  have e1 : Same G' (upd G' C (.lst ws)) := sm_new h1
  have zz := g.trans z
  refine q _ (upd G' C (.lst ws)) H' ⟨zz.hh, zz.gg.trans e1, fun b u x => ?_, fun b u x t y => ?_⟩ (.lst upd_same (RpA.mono e1 _ _ h3))
  · by_cases hb : b = C
    · subst hb
      rw [upd_same] at x
      cases x
      exact h2
    · rw [upd_ne hb] at x
      exact z.gh b u x
  · rw [upd_ne (ne_of_none (g.hh b u x) hC)]
    exact zz.nw b u x t y
theorem ev_lcL {α : Type} {tl : TE} {g : TG} {vs : List Nat} {xs : List α} {enc : α → PyData} (f : α → Bool) (e : α → PyData) (hl : EvR tl Δ (Dat K (.list (xs.map enc)))) (hz : xs.length < sizeLine)
    (hs : ∀ x ∈ xs, ∃ Δ'' js, GJ g (Dat K (enc x)) (wipeD Δ vs) Δ'' js ∧ (∀ j ∈ js, j ∈ vs) ∧ EvT t Δ'' (f x) ∧ (f x = true → EvR te Δ'' (Dat K (e x)))) :
    EvR (tLc (iList K tl) g t te vs) Δ (Dat K (.list ((xs.filter f).map e))) := fun H0 G H σ ee e0 S Q q =>
  hl H0 G H σ ee e0 S _ fun v G1 H1 g1 p1 => by
    obtain ⟨b, ws, rfl, h2, h3⟩ := Rp.isLst p1
    have hw : ws.length = xs.length := by rw [h3.length, List.length_map]
    refine ⟨b, rfl, ⟨ws, SqL.of (g1.gh _ _ h2)⟩, fun C hC => lc_list (K := K) (xs := ws) (fun i H' => LcIn K G1 H1 C (((xs.take i).filter f).map e) H') (lc_start g1.gh hC) (fun i H' _ p => ?_) (fun i x H' hx p => ?_) (fun H' p => ?_)⟩
    · obtain ⟨G', _, z, _⟩ := p
      exact SqL.of (z.gh _ _ (z.gg _ _ h2))
    · obtain ⟨d, hd1, hd2⟩ := h3.getV hx
      rw [List.getElem?_map] at hd1
      cases hxi : xs[i]? with
      | none =>
        rw [hxi] at hd1
        cases hd1
      | some a =>
        rw [hxi] at hd1
        cases Option.some.inj hd1
        have hm : a ∈ xs := List.mem_of_getElem? hxi
        obtain ⟨Δ'', js, k1, k2, k3, k4⟩ := hs a hm
        have tk : ((xs.take (i + 1)).filter f).map e = ((xs.take i).filter f).map e ++ (if f a = true then [e a] else []) := by
          rw [List.take_add_one, hxi, List.filter_append, List.map_append]
          congr 1
          cases hf : f a <;> simp [hf]
        rw [tk]
        have hlen : (((xs.take i).filter f).map e).length < sizeLine := by
          rw [List.length_map]
          refine Nat.lt_of_le_of_lt (List.length_filter_le _ _) ?_
          rw [List.length_take]
          omega
        exact lc_turn hC g1.gh (e0.trans g1.hh) (S.grow g1) hd2 k1 k2 k3 k4 hlen p
    · rw [hw, List.take_length] at p
      exact lc_end g1 hC q p
theorem ev_lcT {α : Type} {tl : TE} {g : TG} {vs : List Nat} {xs : List α} {enc : α → PyData} (f : α → Bool) (e : α → PyData) (hl : EvR tl Δ (Dat K (.tuple (xs.map enc)))) (hz : xs.length < sizeLine)
    (hs : ∀ x ∈ xs, ∃ Δ'' js, GJ g (Dat K (enc x)) (wipeD Δ vs) Δ'' js ∧ (∀ j ∈ js, j ∈ vs) ∧ EvT t Δ'' (f x) ∧ (f x = true → EvR te Δ'' (Dat K (e x)))) :
    EvR (tLc (iTup K tl) g t te vs) Δ (Dat K (.list ((xs.filter f).map e))) := fun H0 G H σ ee e0 S Q q =>
  hl H0 G H σ ee e0 S _ fun v G1 H1 g1 p1 => by
    obtain ⟨b, ws, rfl, h2, h3⟩ := Rp.isTup p1
    have hw : ws.length = xs.length := by rw [h3.length, List.length_map]
    refine ⟨b, rfl, ⟨ws, sm_tup g1.gh h2⟩, fun C hC => lc_tup (K := K) (xs := ws) (fun i H' => LcIn K G1 H1 C (((xs.take i).filter f).map e) H') (lc_start g1.gh hC) (fun i H' _ p => ?_) (fun i x H' hx p => ?_) (fun H' p => ?_)⟩
    · obtain ⟨G', _, z, _⟩ := p
      exact sm_tup z.gh (sm_tup z.gg h2)
    · obtain ⟨d, hd1, hd2⟩ := h3.getV hx
      rw [List.getElem?_map] at hd1
      cases hxi : xs[i]? with
      | none =>
        rw [hxi] at hd1
        cases hd1
      | some a =>
        rw [hxi] at hd1
        cases Option.some.inj hd1
        have hm : a ∈ xs := List.mem_of_getElem? hxi
        obtain ⟨Δ'', js, k1, k2, k3, k4⟩ := hs a hm
        have tk : ((xs.take (i + 1)).filter f).map e = ((xs.take i).filter f).map e ++ (if f a = true then [e a] else []) := by
          rw [List.take_add_one, hxi, List.filter_append, List.map_append]
          congr 1
          cases hf : f a <;> simp [hf]
        rw [tk]
        have hlen : (((xs.take i).filter f).map e).length < sizeLine := by
          rw [List.length_map]
          refine Nat.lt_of_le_of_lt (List.length_filter_le _ _) ?_
          rw [List.length_take]
          omega
        exact lc_turn hC g1.gh (e0.trans g1.hh) (S.grow g1) hd2 k1 k2 k3 k4 hlen p
    · rw [hw, List.take_length] at p
      exact lc_end g1 hC q p
theorem lcr_in {H0 G H G1 H1 : Hp} {σ : L2.St} {C : Addr} {g : TG} {vs : List Nat} {lo : Int} {n : Nat} (f : Nat → Bool) (e : Nat → PyData) (hz : n < sizeLine) (g1 : Gr G H G1 H1) (e0 : Same H0 H1) (s1 : Sg H0 G1 H1 σ Δ) {Q : VK} (hC : H1 C = none)
    (hs : ∀ i, i < n → ∃ Δ'' js, GJ g (Dat K (.int (lo + (i : Int)))) (wipeD Δ vs) Δ'' js ∧ (∀ j ∈ js, j ∈ vs) ∧ EvT t Δ'' (f i) ∧ (f i = true → EvR te Δ'' (Dat K (e i))))
    (q : ∀ v G2 H2, Gr G H G2 H2 → (Dat K (.list (((List.range n).filter f).map e))).p G2 v → Q v H2) :
    ∃ W : Nat → Nat → Hp → Prop, (∃ m, W 0 m (upd H1 C (.lst []))) ∧ ∀ i m H, W i m H →
      ((Itr lo n).stop i H ∧ Q (.ref C) H) ∨ ((Itr lo n).go i H ∧ ∃ Nx : Hp → Prop, (∀ H', Nx H' → ∃ m', m' < m ∧ W (i + 1) m' H') ∧ ∀ x H', (Itr lo n).yld i H x H' → g x (L2.wipe σ vs) H' fun σ2 H2 => L2.wipe σ2 vs = L2.wipe σ vs ∧ t σ2 H2 fun b H3 =>
        if b = true then te σ2 H3 fun y H4 => ∃ acc, H4 C = some (.lst acc) ∧ acc.length < sizeLine ∧ Nx (upd H4 C (.lst (acc ++ [y]))) else Nx H3) := by
  refine lc_range (lo := lo) (n := n) (Qd := Q (.ref C)) (fun i H' => LcIn K G1 H1 C (((List.range i).filter f).map e) H') (lc_start g1.gh hC) (fun i H' hi p => ?_) (fun H' p => lc_end g1 hC q p)
  obtain ⟨Δ'', js, k1, k2, k3, k4⟩ := hs i hi
  have tk : ((List.range (i + 1)).filter f).map e = ((List.range i).filter f).map e ++ (if f i = true then [e i] else []) := by
    rw [List.range_succ, List.filter_append, List.map_append]
    congr 1
    cases hf : f i <;> simp [hf]
  rw [tk]
  have hlen : (((List.range i).filter f).map e).length < sizeLine := by
    rw [List.length_map]
    refine Nat.lt_of_le_of_lt (List.length_filter_le _ _) ?_
    rw [List.length_range]
    omega
  exact lc_turn hC g1.gh e0 s1 (.int _) k1 k2 k3 k4 hlen p
theorem ev_lcR1 {tx : TA} {g : TG} {vs : List Nat} {n : Int} (f : Nat → Bool) (e : Nat → PyData) (hl : EvA tx Δ [Dat K (.int n)]) (hn : -(2 ^ 62) ≤ n ∧ n.toNat < sizeLine)
    (hs : ∀ i, i < n.toNat → ∃ Δ'' js, GJ g (Dat K (.int (i : Int))) (wipeD Δ vs) Δ'' js ∧ (∀ j ∈ js, j ∈ vs) ∧ EvT t Δ'' (f i) ∧ (f i = true → EvR te Δ'' (Dat K (e i)))) :
    EvR (tLc (iRng1 tx) g t te vs) Δ (Dat K (.list (((List.range n.toNat).filter f).map e))) := fun H0 G H σ ee e0 S Q q =>
  hl H0 G H σ ee e0 S _ fun ws G1 H1 g1 p1 => by
    match ws, p1 with
    | [v], ⟨p1, _⟩ =>
      obtain rfl := Rp.isInt p1
      have hb : n < 2 ^ 62 := by
        have h1 := hn.2
        have h2 : (sizeLine : Nat) < 2 ^ 62 := by decide
        omega
      exact ⟨n, rfl, hn.1, hb, fun C hC => lcr_in (K := K) f e hn.2 g1 (e0.trans g1.hh) (S.grow g1) hC (fun i hi => by
        rw [Int.zero_add]
        exact hs i hi) q⟩
theorem ev_lcR2 {tx : TA} {g : TG} {vs : List Nat} {lo n : Int} (f : Nat → Bool) (e : Nat → PyData) (hl : EvA tx Δ [Dat K (.int lo), Dat K (.int n)]) (hn : (-(2 ^ 62) ≤ lo ∧ lo < 2 ^ 62 ∧ -(2 ^ 62) ≤ n ∧ n < 2 ^ 62) ∧ (n - lo).toNat < sizeLine)
    (hs : ∀ i, i < (n - lo).toNat → ∃ Δ'' js, GJ g (Dat K (.int (lo + (i : Int)))) (wipeD Δ vs) Δ'' js ∧ (∀ j ∈ js, j ∈ vs) ∧ EvT t Δ'' (f i) ∧ (f i = true → EvR te Δ'' (Dat K (e i)))) :
    EvR (tLc (iRng2 tx) g t te vs) Δ (Dat K (.list (((List.range (n - lo).toNat).filter f).map e))) := fun H0 G H σ ee e0 S Q q =>
  hl H0 G H σ ee e0 S _ fun ws G1 H1 g1 p1 => by
    match ws, p1 with
    | [v, u], ⟨p1, p2, _⟩ =>
      obtain rfl := Rp.isInt p1
      obtain rfl := Rp.isInt p2
      exact ⟨lo, n, rfl, hn.1, fun C hC => lcr_in (K := K) f e hn.2 g1 (e0.trans g1.hh) (S.grow g1) hC hs q⟩
theorem et_yes : EvT tYes Δ true := fun H0 G H σ e e0 S Q q => q G H (Gr.refl e)

/-! ### defs -/
def startD (N : List Str) (Rs : List RR) : List Slot := Rs.map .val ++ List.replicate (N.length - Rs.length) .no
theorem sg_start {G H : Hp} {N : List Str} {vs : List V} {Rs : List RR} (al : Als G vs Rs) (e : Same G H) : Sg H G H (L2.start N vs) (startD N Rs) := by
  have hl := al.length
  refine ⟨?_, fun i s h => ?_, fun i j O O' a hij h1 => ?_⟩
  · unfold L2.start startD
    rw [List.length_append, List.length_append, List.length_map, List.length_map, List.length_replicate, List.length_replicate, hl]
  · unfold startD at h
    unfold L2.start
    by_cases hi : i < Rs.length
    · rw [List.getElem?_append_left (by rw [List.length_map]; exact hi), List.getElem?_map] at h
      rw [List.getElem?_append_left (by rw [List.length_map, hl]; exact hi), List.getElem?_map]
      cases hr : Rs[i]? with
      | none =>
        rw [hr] at h
        cases h
      | some R =>
        rw [hr] at h
        cases Option.some.inj h
        obtain ⟨v, h1, h2⟩ := al.get hr
        rw [h1]
        exact ⟨some v, rfl, v, rfl, h2⟩
    · rw [List.getElem?_append_right (by rw [List.length_map]; omega)] at h
      rw [List.getElem?_append_right (by rw [List.length_map]; omega)]
      rw [List.length_map] at h ⊢
      rw [hl] at *
      obtain ⟨h1, h2⟩ := List.getElem?_eq_some_iff.mp h
      rw [List.getElem_replicate] at h2
      subst h2
      rw [List.length_replicate] at h1
      exact ⟨none, List.getElem?_eq_some_iff.mpr ⟨by rw [List.length_replicate]; exact h1, List.getElem_replicate ..⟩, trivial⟩
  · exfalso
    unfold startD at h1
    by_cases hi : i < Rs.length
    · rw [List.getElem?_append_left (by rw [List.length_map]; exact hi), List.getElem?_map] at h1
      cases hr : Rs[i]? with
      | none =>
        rw [hr] at h1
        cases h1
      | some R =>
        rw [hr] at h1
        cases h1
    · rw [List.getElem?_append_right (by rw [List.length_map]; omega)] at h1
      obtain ⟨_, h2⟩ := List.getElem?_eq_some_iff.mp h1
      rw [List.getElem_replicate] at h2
      cases h2
section
variable {P : Program} {w : World} {mg : Str → Option Value} {base : Heap}
/-- a def of the text as the top has left it (its defaults whatever they are) -/
structure FunX (K : PySem.W.Frag) (x qual : Str) (st : Stmt) (f : Addr) (fd : FuncData) : Prop where
  ex : ∃ (oc dV kV doc pm cdv ct : Value) (od an : Option Addr) (osl : Array (Option Value)), fd = PySem.W.fnOf x qual (defArgs st) (defBody st) (defScope st) dV kV doc pm an cdv ct ∧ K.lookup f = some ⟨oc, od, .func fd, osl⟩ ∧ PySem.W.codeIn K cdv qual = true
  kp : PySem.W.keepIn K (.ref f) = true
theorem FunX.ok {x qual : Str} {st : Stmt} {f : Addr} {fd : FuncData} {N ps : List Str} {k : Nat} {sp : Sp} (F : FunX K x qual st f fd) (S : FnScope N ps (defScope st)) (len : ∀ vs H Q E, sp vs H Q E → vs.length = ps.length)
    (hb : ∀ (cdv : Value) (A : Around) (outer : List Env) (s : Shared) (H : Hp) (vs : List V) (Q : VK) (E : XK), Room k (A.deeper (envOfC qual (defScope st) s.heap.objs.size f cdv)) → sp vs H Q E →
      ∃ t, PSs (cxOf CX0 P w K mg base N qual (defScope st) f cdv A outer s H E).nox (defBody st) t ∧ t ⟨fun _ H' => Q .non H', Q, fun _ _ => False, fun _ _ => False⟩ (L2.start N vs) H) : FnOk P w K mg base CX0 (k + 1) f fd ps sp := by
  obtain ⟨oc, dV, kV, doc, pm, cdv, ct, od, an, osl, rfl, lk, hcd⟩ := F.ex
  refine fn_of lk hcd S len fun A outer s H vs Q E hr h => ?_
  obtain ⟨t, h1, h2⟩ := hb cdv A outer s H vs Q E hr h
  exact ⟨t, h1.nox, h2⟩
theorem room65 {k : Nat} {A : Around} (r : Room k A) : A.units + 65 < cLine := by
  have := r.un
  omega
/-- the ends of a def's body -/
def retA (R : RR) : AE := ⟨fun _ => ∀ G, R.p G .non, R.p, fun _ => False, fun _ => False⟩
theorem fn_ok {α : Type} {x qual : Str} {st : Stmt} {f : Addr} {fd : FuncData} {N ps : List Str} {k : Nat} {args : α → List RR} {pre : α → Prop} {res : α → RR} (F : FunX K x qual st f fd) (S : FnScope N ps (defScope st)) (hl : ∀ y : α, (args y).length = ps.length)
    (hbody : ∀ (cdv : Value) (A : Around) (outer : List Env) (s : Shared) (H : Hp) (E : XK), Room k (A.deeper (envOfC qual (defScope st) s.heap.objs.size f cdv)) →
      ∃ t, PSs (cxOf CX0 P w K mg base N qual (defScope st) f cdv A outer s H E).nox (defBody st) t ∧ ∀ y : α, pre y → SJ t (startD N (args y)) (retA (res y))) : FnOk P w K mg base CX0 (k + 1) f fd ps (spOf args pre res) := by
  refine F.ok S (fun vs H Q E h => ?_) (fun cdv A outer s H vs Q E hr h => ?_)
  · obtain ⟨y, G, _, _, al, _⟩ := h
    rw [al.length, hl]
  · obtain ⟨y, G, hp, e, al, q⟩ := h
    obtain ⟨t, h1, h2⟩ := hbody cdv A outer s H E hr
    refine ⟨t, h1, h2 y hp G H G H _ _ (Gr.refl e) (sg_start al e) ⟨fun σ' G' H' Δ' g' _ m => q _ G' H' g' (m G'), fun v G' H' g' p => q v G' H' g' p, fun _ _ _ _ _ _ m => m.elim, fun _ _ _ _ _ _ m => m.elim⟩⟩

/-! ### an __init__ -/
/-- the instance at p, of the class at C, with these attributes so far -/
def OIns (C p : Addr) (fs : List (Str × RR)) : OO :=
  ⟨fun G a o => a = p ∧ ∃ dx fv, o = .ins C dx fv ∧ fv.map (·.1) = fs.map (·.1) ∧ Als G (fv.map (·.2)) (fs.map (·.2)), by
    rintro G G' a o e ⟨h0, dx, fv, h1, h2, h3⟩
    exact ⟨h0, dx, fv, h1, h2, Als.mono e h3⟩, by
    rintro G a o ⟨_, dx, fv, h1, _⟩
    rw [h1]
    rfl⟩
def InsAt (C p : Addr) (fs : List (Str × RR)) : RR := ⟨fun G v => v = .ref p ∧ (InsR C fs).p G v, fun e h => ⟨h.1, (InsR C fs).mono e h.2⟩⟩
theorem putF_new {f : Str} {v : V} : ∀ {fs : List (Str × V)}, fs.lookup f = none → putF f v fs = fs ++ [(f, v)]
  | [], _ => rfl
  | (g, x) :: r, h => by
    rw [List.lookup_cons] at h
    have e : ¬ g = f := fun e => by
      subst e
      rw [beq_self_eq_true] at h
      cases h
    have h' : r.lookup f = none := by
      cases z : f == g with
      | true =>
        rw [z] at h
        cases h
      | false =>
        rw [z] at h
        exact h
    show (if g = f then (g, v) :: r else (g, x) :: putF f v r) = _
    rw [if_neg e, putF_new h']
    rfl
theorem sj_fld {i : Nat} {C p : Addr} {f : Str} {fs : List (Str × RR)} (ei : Δ[i]? = some (.opn (OIns C p fs))) (h : EvR te Δ R) (c : Cls K C) (n : NoAttr K C f) (hl : fs.lookup f = none) (hz : fs.length < 1000) (hn : A.nx (Δ.set i (.opn (OIns C p (fs ++ [(f, R)]))))) :
    SJ (sFld K (tVar i) te f) Δ A := fun G0 H0 G H σ D g s a =>
  h H0 G H σ g.gh g.hh s _ fun v G1 H1 g1 p1 => by
    obtain ⟨b, o, h1, h2, h3, h4, h5, dx, fv, rfl, h6, h7⟩ := (s.grow g1).opn ei
    have hlen : fv.length = fs.length := by
      have := congrArg List.length h6
      rw [List.length_map, List.length_map] at this
      exact this
    have e1 : putF f v fv = fv ++ [(f, v)] := putF_new (als_lookup_none (G := G1) h6 hl)
    refine ⟨.ref b, h1, b, C, dx, fv, rfl, h4, c, n, by rw [hlen]; exact hz, ?_⟩
    rw [e1]
    exact a.nx σ G1 _ _ (gr_mut (g.trans g1) h2 h3) ((s.grow g1).mut (O1 := OIns C p (fs ++ [(f, R)])) ei h1 h2 h3 ⟨h5, dx, _, rfl, by rw [List.map_append, List.map_append, h6]; rfl, by rw [List.map_append, List.map_append]; exact als_app h7 ⟨p1, trivial⟩⟩) hn
theorem q_fld {i : Nat} {C p : Addr} {f : Str} {fs : List (Str × RR)} (ei : Δ[i]? = some (.opn (OIns C p fs))) (h : EvR te Δ R) (c : Cls K C) (n : NoAttr K C f) (hl : fs.lookup f = none) (hz : fs.length < 1000) (hn : SJ tz (Δ.set i (.opn (OIns C p (fs ++ [(f, R)])))) A) :
    SJ (tSeq (sFld K (tVar i) te f) tz) Δ A := sj_seq1 (sj_fld ei h c n hl hz rfl) hn
theorem sj_frzI {i : Nat} {C p : Addr} {fs : List (Str × RR)} (ei : Δ[i]? = some (.opn (OIns C p fs))) (h : SJ tu (Δ.set i (.val (InsAt C p fs))) A) : SJ tu Δ A := sj_frzO ei (fun G' a o hp f => by
  obtain ⟨rfl, dx, fv, rfl, h1, h2⟩ := hp
  exact ⟨rfl, a, dx, fv, rfl, f, h1, h2⟩) h
theorem insAt_ins {C p : Addr} {fs : List (Str × RR)} : ∀ G v, (InsAt C p fs).p G v → (InsR C fs).p G v := fun _ _ h => h.2
theorem hasM_at {C p : Addr} {m : Str} {fs : List (Str × RR)} (hm : fs.lookup m = none) : HasM C m (InsAt C p fs) := fun G v h => hasM_ins hm G v h.2
def initA (C p : Addr) (fs : List (Str × RR)) : AE := ⟨fun Δ => Δ[0]? = some (.val (InsAt C p fs)), fun _ _ => False, fun _ => False, fun _ => False⟩
theorem fn_init {α : Type} {x qual : Str} {st : Stmt} {f C : Addr} {fd : FuncData} {N ps : List Str} {k : Nat} {args : α → List RR} {pre : α → Prop} {fs : α → List (Str × RR)} (F : FunX K x qual st f fd) (S : FnScope N ps (defScope st)) (hl : ∀ y : α, (args y).length + 1 = ps.length)
    (hN : ps.length ≤ N.length)
    (hbody : ∀ (cdv : Value) (A : Around) (outer : List Env) (s : Shared) (H : Hp) (E : XK), Room k (A.deeper (envOfC qual (defScope st) s.heap.objs.size f cdv)) →
      ∃ t, PSs (cxOf CX0 P w K mg base N qual (defScope st) f cdv A outer s H E).nox (defBody st) t ∧ ∀ y : α, pre y → ∀ p : Addr, SJ t ((startD N (AnyR :: args y)).set 0 (.opn (OIns C p []))) (initA C p (fs y))) : FnOk P w K mg base CX0 (k + 1) f fd ps (spInit C args pre fs) := by
  refine F.ok S (fun vs H Q E h => ?_) (fun cdv A outer s H vs Q E hr h => ?_)
  · obtain ⟨y, G, H', p, dx, ws, _, _, _, _, _, rfl, _, al, _⟩ := h
    rw [List.length_cons, al.length, hl]
  · obtain ⟨y, G, H', p, dx, ws, hp, e, n1, n2, ne, rfl, rfl, al, q⟩ := h
    obtain ⟨t, h1, h2⟩ := hbody cdv A outer s _ E hr
    have eH : Same H' (upd (upd H' dx (.own p)) p (.ins C dx [])) := fun b o x => by
      rw [upd_ne (ne_of_none x n1), upd_ne (ne_of_none x n2)]
      exact x
    have g0 : Gr G H' G (upd (upd H' dx (.own p)) p (.ins C dx [])) := ⟨eH, Same.refl _, e.trans eH, fun _ _ _ _ z => z⟩
    have S0 : Sg H' G H' (L2.start N (.ref p :: ws)) (startD N (AnyR :: args y)) := sg_start (vs := .ref p :: ws) (Rs := AnyR :: args y) ⟨trivial, al⟩ e
    have S1 : Sg H' G (upd (upd H' dx (.own p)) p (.ins C dx [])) (L2.start N (.ref p :: ws)) (startD N (AnyR :: args y)) := S0.grow g0
    have s00 : (L2.start N (.ref p :: ws))[0]? = some (some (.ref p)) := rfl
    have S2 : Sg H' G (upd (upd H' dx (.own p)) p (.ins C dx [])) (L2.start N (.ref p :: ws)) ((startD N (AnyR :: args y)).set 0 (.opn (OIns C p []))) := by
      refine ⟨by rw [List.length_set]; exact S1.len, fun j s' e' => ?_, fun j k' O' O'' b hjk e1 e2 => ?_⟩
      · rcases get_set e' with ⟨z1, z2, hl'⟩ | ⟨z1, z2⟩
        · subst z1; subst z2
          exact ⟨_, s00, p, .ins C dx [], rfl, sm_back e n1, n1, upd_same, rfl, dx, [], rfl, rfl, trivial⟩
        · exact S1.ok j s' z2
      · exfalso
        have noO : ∀ (m : Nat) (O : OO), (startD N (AnyR :: args y))[m]? ≠ some (.opn O) := fun m O h => by
          unfold startD at h
          by_cases hi : m < (AnyR :: args y).length
          · rw [List.getElem?_append_left (by rw [List.length_map]; exact hi), List.getElem?_map] at h
            cases hr : (AnyR :: args y)[m]? with
            | none =>
              rw [hr] at h
              cases h
            | some R =>
              rw [hr] at h
              cases h
          · rw [List.getElem?_append_right (by rw [List.length_map]; omega)] at h
            obtain ⟨_, h2⟩ := List.getElem?_eq_some_iff.mp h
            rw [List.getElem_replicate] at h2
            cases h2
        rcases get_set e1 with ⟨z1, _, _⟩ | ⟨_, z1⟩
        · rcases get_set e2 with ⟨z2, _, _⟩ | ⟨_, z2⟩
          · exact hjk (z1.trans z2.symm)
          · exact noO _ _ z2
        · exact noO _ _ z1
    refine ⟨t, h1, h2 y hp p G H' G _ _ _ g0 S2 ⟨fun σ' G' H2 Δ' g' s' m => ?_, fun _ _ _ _ m => m.elim, fun _ _ _ _ _ _ m => m.elim, fun _ _ _ _ _ _ m => m.elim⟩⟩
    obtain ⟨v, k1, k2, k3⟩ := s'.val (show Δ'[0]? = some (.val (InsAt C p (fs y))) from m)
    rw [k2] at k3
    exact q G' H2 g' k3
end
end DL
/-! D3: sorted, in, enumerate, dicts, texts, max with a default, over data. -/
namespace DL
open PySem PySem.Spec PyProof.Rows L2
variable {K : PySem.W.Frag} {Δ : List Slot} {A : AE} {ta tb te : TE} {R R1 R3 : RR} {t : TT} {tu tw tz : TS} {X : Cx}

/-! ### sorted -/
def rSortedD (K : PySem.W.Frag) : List V → Hp → VK → Prop := fun vs H Q => ∃ (β : Type) (enc : β → PyData) (S : V → β → Prop) (a : Addr) (xs : List V) (bs : List β), vs = [V.ref a] ∧ SqL K H a xs ∧ PySem.W.EachIs S xs bs ∧ (∀ v b, S v b → Dp K H v (enc b)) ∧
  PySem.W.AllAlike (bs.map enc) ∧ PySem.W.Sortable (bs.map enc) ∧ (∀ b ∈ bs, (enc b).depth ≤ 8) ∧ ∀ ys p, PySem.W.EachIs S ys (bs.mergeSort (PySem.W.dataLe false enc)) → H p = none → Q (.ref p) (upd H p (.lst ys))
theorem each_vals {β : Type} {S : V → β → Prop} : ∀ {xs : List V} {us : List Value} {bs : List β}, Vals xs us → PySem.W.EachIs S xs bs → PySem.W.EachIs (fun u b => ∃ v, RelV v u ∧ S v b) us bs
  | _, _, _, .nil, .nil => .nil
  | _, _, _, .cons r t, .cons s e => .cons ⟨_, r, s⟩ (each_vals t e)
theorem vals_each {β : Type} {S : V → β → Prop} : ∀ {us : List Value} {bs : List β}, PySem.W.EachIs (fun u b => ∃ v, RelV v u ∧ S v b) us bs → ∃ xs, Vals xs us ∧ PySem.W.EachIs S xs bs
  | _, _, .nil => ⟨[], .nil, .nil⟩
  | _, _, .cons ⟨v, r, s⟩ e => let ⟨xs, h1, h2⟩ := vals_each e; ⟨v :: xs, .cons r h1, .cons s h2⟩
theorem cr_sortedD (hu : X.A.units + 64 < cLine) : CallR X (.builtin "sorted") (rSortedD X.K) := by
  intro pins s σ H vs us Q I r h
  obtain ⟨β, enc, S, a, xs, bs, rfl, hs, he, hd, hal, hk, hdp, q⟩ := h
  obtain ⟨its, rv, hl, hz⟩ := I.list hs
  obtain ⟨u, rfl, ru⟩ := vals1 r
  obtain rfl : u = Value.ref a := ru
  have hlen : bs.length = its.length := by rw [← he.length, rv.length]
  have e1 := each_vals rv he
  refine PySem.W.sorted_data (R := fun u b => ∃ v, RelV v u ∧ S v b) (enc := enc) (bs := bs) hl.isList e1 (e1.mono fun u b ⟨v, r1, r2⟩ => Dp.reads I _ v u (hd v b r2) r1) hal hk (by rw [← he.length]; exact hz) (fun b hb => ?_) fun out h1 h2 => ?_
  · have := hdp b hb
    omega
  · obtain ⟨ys, y1, y2⟩ := vals_each h2
    have hp : s.heap.objs.size ≤ s.heap.objs.size + 1 := Nat.le_succ _
    obtain ⟨n, hn⟩ := PyProof.Rows.sortedAll_at s.heap its out.toArray
    refine ⟨.ref (s.heap.objs.size + 1), upd H (s.heap.objs.size + 1) (.lst ys), I.laid (t' := s.toks) (fun b o e => PyProof.Rows.sortedAll_old e) hp ⟨?_, out, n, y1, hn⟩, rfl, q ys _ y2 (I.hok.fresh hp)⟩
    rw [y1.length, h1, ← he.length]
    exact hz
theorem rpa_each {β : Type} {enc : β → PyData} {G : Hp} : ∀ {xs : List V} {bs : List β}, RpA K G xs (bs.map enc) → PySem.W.EachIs (fun v b => Rp K G v (enc b)) xs bs
  | [], [], _ => .nil
  | [], _ :: _, h => by cases h
  | _ :: _, [], h => by cases h
  | v :: xs, b :: bs, h => by
    cases h with
    | cons h1 h2 => exact .cons h1 (rpa_each h2)
theorem each_rpa {β : Type} {enc : β → PyData} {G : Hp} : ∀ {xs : List V} {bs : List β}, PySem.W.EachIs (fun v b => Rp K G v (enc b)) xs bs → RpA K G xs (bs.map enc)
  | _, _, .nil => .nil
  | _, _, .cons h t => .cons h (each_rpa t)
theorem cb_sorted {β : Type} {enc : β → PyData} {bs : List β} (hal : PySem.W.AllAlike (bs.map enc)) (hk : PySem.W.Sortable (bs.map enc)) (hd : ∀ b ∈ bs, (enc b).depth ≤ 8) :
    CbE (rSortedD K) [Dat K (.list (bs.map enc))] (Dat K (.list ((bs.mergeSort (PySem.W.dataLe false enc)).map enc))) := fun G H vs e p Q q => by
  match vs, p with
  | [v], ⟨p1, _⟩ =>
    obtain ⟨a, xs, h1, h2, h3⟩ := Rp.isLst p1
    subst h1
    exact ⟨β, enc, fun v b => Rp K G v (enc b), a, xs, bs, rfl, SqL.of (e _ _ h2), rpa_each h3, fun v b h => Rp.dp _ _ (Rp.mono e _ _ h), hal, hk, hd, fun ys l hy hl => q _ (upd G l (.lst ys)) _ (Gr.new e hl) (.lst upd_same (RpA.mono (sm_new (sm_back e hl)) _ _ (each_rpa hy)))⟩

/-! ### in -/
def rInS (K : PySem.W.Frag) (neg : Bool) : R2 := fun x y H Q => ∃ d ds, Dp K H x d ∧ (Dp K H y (.list ds) ∨ Dp K H y (.tuple ds)) ∧ SeqAt.shaped d = true ∧ PyData.canLayAll0 ds = true ∧ Q (.bl (if neg then !(ds.any fun z => PyData.eqv z d) else ds.any fun z => PyData.eqv z d)) H
theorem op_inS (hu : X.A.units + 65 < cLine) : OpR X (compareOp .In) (rInS X.K false) := by
  intro pins s σ H x y v u Q I rx ry h
  obtain ⟨d, ds, hd, he, sd, se, q⟩ := h
  obtain ⟨as, r1⟩ := Dp.reads I d x v hd rx
  rcases he with he | he
  · obtain ⟨bs, r2⟩ := Dp.reads I (.list ds) y u he ry
    exact SeqAt.in_list_reads r2 r1 se (SeqAt.canLay_of_shaped sd) (room_in_shaped sd hu) ⟨.bl _, H, I, rfl, q⟩
  · obtain ⟨bs, r2⟩ := Dp.reads I (.tuple ds) y u he ry
    exact SeqAt.in_tuple_reads r2 r1 se (SeqAt.canLay_of_shaped sd) (room_in_shaped sd hu) ⟨.bl _, H, I, rfl, q⟩
theorem op_niS (hu : X.A.units + 65 < cLine) : OpR X (compareOp .NotIn) (rInS X.K true) := by
  intro pins s σ H x y v u Q I rx ry h
  obtain ⟨d, ds, hd, he, sd, se, q⟩ := h
  obtain ⟨as, r1⟩ := Dp.reads I d x v hd rx
  rcases he with he | he
  · obtain ⟨bs, r2⟩ := Dp.reads I (.list ds) y u he ry
    exact SeqAt.notIn_list_reads r2 r1 se (SeqAt.canLay_of_shaped sd) (room_in_shaped sd hu) ⟨.bl _, H, I, rfl, q⟩
  · obtain ⟨bs, r2⟩ := Dp.reads I (.tuple ds) y u he ry
    exact SeqAt.notIn_tuple_reads r2 r1 se (SeqAt.canLay_of_shaped sd) (room_in_shaped sd hu) ⟨.bl _, H, I, rfl, q⟩
theorem ev_inSL {neg : Bool} {d : PyData} {ds : List PyData} (ha : EvR ta Δ (Dat K d)) (hb : EvR tb Δ (Dat K (.list ds))) (s1 : SeqAt.shaped d = true) (s2 : PyData.canLayAll0 ds = true) : EvR (tOp (rInS K neg) ta tb) Δ (Dat K (.bool (if neg then !(ds.any fun z => PyData.eqv z d) else ds.any fun z => PyData.eqv z d))) := ev_op ha hb fun G H x y e p1 p2 Q q =>
  ⟨d, ds, Rp.dp _ _ (Rp.mono e _ _ p1), .inl (Rp.dp _ _ (Rp.mono e _ _ p2)), s1, s2, q _ G H (Gr.refl e) (.bl _)⟩
theorem ev_inST {neg : Bool} {d : PyData} {ds : List PyData} (ha : EvR ta Δ (Dat K d)) (hb : EvR tb Δ (Dat K (.tuple ds))) (s1 : SeqAt.shaped d = true) (s2 : PyData.canLayAll0 ds = true) : EvR (tOp (rInS K neg) ta tb) Δ (Dat K (.bool (if neg then !(ds.any fun z => PyData.eqv z d) else ds.any fun z => PyData.eqv z d))) := ev_op ha hb fun G H x y e p1 p2 Q q =>
  ⟨d, ds, Rp.dp _ _ (Rp.mono e _ _ p1), .inr (Rp.dp _ _ (Rp.mono e _ _ p2)), s1, s2, q _ G H (Gr.refl e) (.bl _)⟩

/-! ### walks -/
theorem sj_walk {J : It} {n : Nat} {GG : Hp → Prop} {Y : Nat → Hp → V → Hp → Prop} {g : TG} {G0 H0 G1 H1 : Hp} {σ : L2.St} {D : Ends} (w : Walk J n GG Y) (gA : Gr G0 H0 G1 H1) (s1 : Sg H0 G1 H1 σ Δ) (a : AOk G0 H0 A D) (hG : ∀ G' H', Same G1 G' → Same G' H' → GG H') (de : Nat → PyData)
    (hY : ∀ i x G' H' H'', i < n → Gr G1 H0 G' H' → Y i H' x H'' → ∃ G'', Gr G' H' G'' H'' ∧ Rp K G'' x (de i)) (P : Nat → List Slot → Prop) (h0 : P 0 Δ)
    (hs : ∀ (i : Nat) (Δ' : List Slot), i < n → P i Δ' → ∃ Δ'' js, GJ g (Dat K (de i)) Δ' Δ'' js ∧ SJ tu Δ'' ⟨P (i + 1), A.rt, A.nx, P (i + 1)⟩)
    (hd : ∀ Δ', P n Δ' → A.nx Δ') : ∃ W : Nat → Nat → L2.St → Hp → Prop, (∃ m, W 0 m σ H1) ∧ ∀ i m σ H, W i m σ H →
      (J.stop i H ∧ D.nx σ H) ∨ (J.go i H ∧ ∃ N : L2.St → Hp → Prop, (∀ σ' H', N σ' H' → ∃ m', m' < m ∧ W (i + 1) m' σ' H') ∧ ∀ x H', J.yld i H x H' → g x σ H' fun σ2 H2 => tu { D with nx := N, ct := N, bk := D.nx } σ2 H2) := by
  refine for_it w (fun i σ' H' => ∃ G' Δ', Gr G1 H0 G' H' ∧ Sg H0 G' H' σ' Δ' ∧ P i Δ') ⟨G1, Δ, ⟨gA.hh, Same.refl _, gA.gh, fun _ _ _ _ z => z⟩, s1, h0⟩ ?_ ?_ ?_
  · rintro i σ' H' _ ⟨G', Δ', z, _, _⟩
    exact hG G' H' z.gg z.gh
  · rintro i x σ' H' H'' hi ⟨G', Δ', z, s', p'⟩ hy
    obtain ⟨G'', z2, r⟩ := hY i x G' H' H'' hi z hy
    obtain ⟨Δ'', js, hg, hb⟩ := hs i Δ' hi p'
    refine hg H0 G'' H'' σ' x z2.gh (z.trans z2).hh (s'.grow z2) r _ fun σ2 S2 _ => ?_
    exact hb G1 H0 G'' H'' σ2 _ (z.trans z2) S2 (aok_in (M := P (i + 1)) (N := P (i + 1)) (NN := fun _ _ => True) gA a fun σ3 G3 H3 Δ3 z3 s3 p3 => ⟨G3, Δ3, z3, s3, p3⟩)
  · rintro σ' H' ⟨G', Δ', z, s', p'⟩
    exact a.nx σ' G' H' Δ' (gA.trans0 z) s' (hd Δ' p')
/-- a new pair of ints and data -/
theorem pair_new {G H : Hp} {T : Addr} {x : V} {d : PyData} {i : Int} (e : Same G H) (hT : H T = none) (h : Rp K G x d) : Gr G H (upd G T (.tup [.int i, x])) (upd H T (.tup [.int i, x])) ∧ Rp K (upd G T (.tup [.int i, x])) (.ref T) (.tuple [.int i, d]) :=
  ⟨Gr.new e hT, .tup (SqT.of upd_same) (.cons (.int i) (.cons (Rp.mono (sm_new (sm_back e hT)) _ _ h) .nil))⟩
/-- for i, x in enumerate(list) -/
theorem sj_forEL {tx : TA} {g : TG} {ds : List PyData} (hl : EvA tx Δ [Dat K (.list ds)]) (P : Nat → List Slot → Prop) (h0 : P 0 Δ)
    (hs : ∀ (i : Nat) (d : PyData) (Δ' : List Slot), ds[i]? = some d → P i Δ' → ∃ Δ'' js, GJ g (Dat K (.tuple [.int (i : Int), d])) Δ' Δ'' js ∧ SJ tu Δ'' ⟨P (i + 1), A.rt, A.nx, P (i + 1)⟩)
    (hd : ∀ Δ', P ds.length Δ' → A.nx Δ') : SJ (tFor (iEnum K tx) g tu) Δ A := fun G0 H0 G H σ D gg s a =>
  hl H0 G H σ gg.gh gg.hh s _ fun vs G1 H1 g1 p1 => by
    match vs, p1 with
    | [v], ⟨p1, _⟩ =>
      obtain ⟨b, xs, rfl, h2, h3⟩ := Rp.isLst p1
      refine ⟨b, xs, rfl, SqL.of (g1.gh _ _ h2), ?_⟩
      have hn := h3.length
      refine sj_walk (K := K) (de := fun i => .tuple [.int (i : Int), ds.getD i .none]) (walk_enum (K := K) (a := b) (xs := xs)) (gg.trans g1) (s.grow g1) a (fun G' H' e1 e2 => SqL.of (e2 _ _ (e1 _ _ h2))) (fun i x G' H' H'' hi z hy => ?_) P h0 (fun i Δ' hi p => ?_) (fun Δ' p => hd Δ' (by rw [← hn]; exact p))
      · obtain ⟨T, x1, x2, rfl, hT, rfl, e1, e2⟩ := hy
        cases Option.some.inj e1
        obtain ⟨d, hd1, hd2⟩ := h3.getV e2
        have e3 : ds.getD i .none = d := by rw [List.getD_eq_getElem?_getD, hd1]; rfl
        refine ⟨_, (pair_new z.gh hT (Rp.mono z.gg _ _ hd2)).1, ?_⟩
        rw [e3]
        exact (pair_new z.gh hT (Rp.mono z.gg _ _ hd2)).2
      · have hi' : i < ds.length := by rw [← hn]; exact hi
        have e3 : ds.getD i .none = ds[i] := by rw [List.getD_eq_getElem?_getD, List.getElem?_eq_getElem hi']; rfl
        rw [e3]
        exact hs i ds[i] Δ' (List.getElem?_eq_getElem hi') p
/-! ### enumerate(tuple) -/
def IteT (K : PySem.W.Frag) (a : Addr) : It :=
  ⟨fun i H => ∃ (xs : List V) (x : V), SqT K H a xs ∧ xs[i]? = some x, fun i H v H' => ∃ T x, v = .ref T ∧ H T = none ∧ H' = upd H T (.tup [.int (i : Nat), x]) ∧ ∀ xs, SqT K H a xs → xs[i]? = some x, fun i H => ∃ xs : List V, SqT K H a xs ∧ xs.length ≤ i⟩
theorem walk_enumT {a : Addr} {xs : List V} : Walk (IteT K a) xs.length (fun H => SqT K H a xs) (YPair (fun i => some (.int (i : Nat))) (fun i => xs[i]?)) :=
  ⟨fun i _ hi q => ⟨xs, xs[i], q, by simp [hi]⟩, fun _ q => ⟨xs, q, Nat.le_refl _⟩, fun i H x H' hi q ⟨T, y, e1, e2, e3, e4⟩ => ⟨T, .int i, y, e1, e2, e3, rfl, e4 xs q⟩⟩
theorem cls_apart {h : Heap} {e a : Addr} {o : Obj} {its : Array Value} {c : String} (he : h.get? e = some o) (hc : o.cls = .type c) (hn : c ≠ "tuple") (ht : h.IsTuple a its) : e ≠ a := fun z => by
  subst z
  obtain ⟨o', h1, h2, _⟩ := ht
  rw [he] at h1
  cases Option.some.inj h1
  rw [hc] at h2
  exact hn (Value.type.inj h2)
theorem turn_enumT {P : Program} {w : World} {elts : List Expr} {kk : Nat} {tpos : Pos} (a e it : Addr) :
    Turn P w K (.Tuple elts kk tpos) (IteT K a) [e, it] e (fun i h => (∃ old, IsEnum h e it ((i : Nat) : Int) old) ∧ h.IsTupleIter it a i ∧ e ≠ it) where
  mem := List.mem_cons_self
  obj := fun i h st b hb => by
    obtain ⟨⟨old, he⟩, ⟨o, ho, hc, hd⟩, _⟩ := st
    rcases List.mem_cons.mp hb with z | z
    · subst z; exact ⟨_, he, fun v q => nomatch q⟩
    · cases List.mem_singleton.mp z; exact ⟨o, ho, fun v q => by rw [hd] at q; cases q⟩
  keep := fun i h h' st k => ⟨st.1.elim fun old he => ⟨old, k e List.mem_cons_self _ he⟩, st.2.1.at fun o q => k it (List.mem_cons_of_mem _ List.mem_cons_self) o q, st.2.2⟩
  item := by
    intro X hP hw hK hc i pins s σ H E I hf st hg
    subst hP hw hK
    obtain ⟨⟨old, he⟩, hit, hne⟩ := st
    obtain ⟨xs, x, hq, hx⟩ := hg
    obtain ⟨its, rv, p, hz⟩ := I.tuple hq
    obtain ⟨u, hu, ru⟩ := rv.get hx
    have hel : e < s.heap.objs.size := Heap.lt_size he
    have hil : it < s.heap.objs.size := by obtain ⟨_, q, _⟩ := hit; exact Heap.lt_size q
    have ht : s.heap.IsTuple a its.toArray := p
    have hia : it ≠ a := by
      obtain ⟨o, o1, o2, _⟩ := id hit
      exact cls_apart o1 o2 (by decide) ht
    have hea : e ≠ a := cls_apart he rfl (by decide) ht
    have hlt : i < its.toArray.size := by
      rw [List.size_toArray]
      exact (List.getElem?_eq_some_iff.mp hu).1
    refine wpAny_pyNext_enum_itemD (Draws.tuple (A := X.A.in1) (I.ok.hd hc) it a (Ne.symm hia) its.toArray) he ⟨hit, ht⟩ hlt hne (fun z => ?_) fun y h' tk hy ho hst hT hsz hk => ?_
    · rcases List.mem_cons.mp z with z | z
      · exact hne z
      · exact hea (List.mem_singleton.mp z)
    have ey : y = u := by
      have hy' : its[i]? = some y := by simpa using hy
      rw [hu] at hy'
      exact (Option.some.inj hy').symm
    subst ey
    refine ⟨_, rfl, wpAny_letOwnedTupleGo_enum (s := { s with heap := h', toks := tk + 1 }) ho fun h'' he' sb => ?_⟩
    have hT2 : h''.get? s.heap.objs.size = some { cls := .type "tuple", data := .seq #[.int i tk, y] } := (sb.2 _ (Nat.ne_of_gt hel)).trans hT
    have new : ObjOk X.prog X.w (upd H s.heap.objs.size (.tup [.int (i : Nat), x])) h'' s.heap.objs.size (.tup [.int (i : Nat), x]) :=
      ⟨by show 2 ≤ sizeLine; decide, [.int i tk, y], .cons ⟨_, rfl⟩ (.cons ru .nil), ⟨_, hT2, rfl, _, rfl⟩⟩
    have hch : ∀ b, b ∉ [e, it] → b ≠ e ∧ b ≠ it := fun b hb => ⟨fun z => hb (by rw [z]; exact List.mem_cons_self), fun z => hb (by rw [z]; exact List.mem_cons_of_mem _ List.mem_cons_self)⟩
    have I1 : Inv X pins σ (upd H s.heap.objs.size (.tup [.int (i : Nat), x])) { s with heap := h'', toks := tk + 1 } :=
      I.turnedNew (ch := [e, it]) (fun b ob hb q => (sb.2 b (hch b hb).1).trans (hk b ob (hch b hb).1 (hch b hb).2 q)) hf (Nat.le_refl _) new
    have e1 : ((i + 1 : Nat) : Int) = (i : Int) + 1 := by omega
    refine ⟨.ref s.heap.objs.size, _, I1, rfl, ⟨_, x, rfl, I.hok.fresh (Nat.le_refl _), rfl, fun ys hy => by rw [I.tuple_inj hy hq]; exact hx⟩, ⟨⟨y, by rw [e1]; exact he'⟩, hst.1.at fun o q => (sb.2 it (Ne.symm hne)).trans q, hne⟩, fun b hb => ?_⟩
    have hb' : b < s.heap.objs.size := by
      rcases List.mem_cons.mp hb with z | z
      · rw [z]; exact hel
      · rw [List.mem_singleton.mp z]; exact hil
    rw [upd_ne (Nat.ne_of_lt hb')]
    exact (hf b hb).1
  done := by
    intro X hP hw hK hc i pins s σ H E I hf st hg
    subst hP hw hK
    obtain ⟨⟨old, he⟩, hit, hne⟩ := st
    obtain ⟨xs, hq, hx⟩ := hg
    obtain ⟨its, rv, p, hz⟩ := I.tuple hq
    obtain ⟨f0, f1, f2, f3, f4, f5⟩ := hf it (List.mem_cons_of_mem _ List.mem_cons_self)
    have ht : s.heap.IsTuple a its.toArray := p
    have hia : it ≠ a := by
      obtain ⟨o, o1, o2, _⟩ := id hit
      exact cls_apart o1 o2 (by decide) ht
    show wpAny _ X.A (pyNext (.ref e)) _ E s
    have hT : s.TypeIs (.ref e) "enumerate" := ⟨_, he, rfl⟩
    unfold pyNext
    refine wpAny_bind (wpAny_attempt (wpAny_callSpecial?_slot (name := Str.ofString "__next__") hT F.slot_enumerate_next
      (wpAny_call_entry F.slot_enumerate_next hT F.entry_enumerate_next ?_ (F.args_enumerate_next_1 _))))
    show wpAny _ _ (field (.ref e) 2 >>= _) _ _ _
    refine wpAny_bind (wpAny_field he rfl (x := .ref it) rfl ?_)
    refine wpAny_bind (wpAny_nextOf_tuple_end (I.ok.hd hc) hit ht (by rw [List.getElem?_toArray]; exact List.getElem?_eq_none (by rw [← rv.length]; exact hx)) fun h' x he' hx' => ?_)
    obtain ⟨o, ho, hcs⟩ := hx'
    refine wpAny_bind (wpAny_isInstance (T := "StopIteration") (b := true) ⟨o, ho, hcs⟩ isSubtype_stop ?_)
    exact wpAny_pure ⟨rfl, I.turned (t' := s.toks) (fun b o hb q => he' b o hb q) f0 f1 f3 f4 f5⟩
  self := fun A i s Q E st h => st.1.elim fun _ he => wpAny_pyIter_enum he h
end DL
/-! D4: enumerate of a tuple, dicts of pairs, texts, max with a default. -/
namespace DL
open PySem PySem.Spec PyProof.Rows L2
theorem meets_en1 {v : Value} {o : Obj} {HH : Heap → Prop} (B : Begins v o HH) : Meets (Builtin.«enumerate.__new__» ⟨[.type "enumerate", v], []⟩) (fun _ R s => HH s.heap ∧ R (.ok (.ret (.ref (s.heap.push o).objs.size)))
      { s with heap := (s.heap.push o).push { cls := .type "enumerate", data := .fields #[.none, .bool false, .ref s.heap.objs.size, rawInt 0, .none, .none] } }) :=
  .of_wp fun prog w A R s h => by
    obtain ⟨hp, gs, dn, tk, os⟩ := s
    have hsub := sub_enumerate
    have it1 : ∀ {A1 : Around} {E1 Q1 : Value → Shared → Prop}, Q1 (.ref hp.objs.size) ⟨hp.push o, gs, dn, tk, os⟩ → wpAny (model prog w) A1 (pyIter v) Q1 E1 ⟨hp, gs, dn, tk, os⟩ := fun q => B.iter prog w _ _ ⟨hp, gs, dn, tk, os⟩ _ h.1 q
    wp_walk using it1
    refine wpAny_stack_any fun sk => wpAny_pure ?_
    split
    · rename_i c _ _ _ _ _
      cases (c == Value.type "enumerate") <;> (wp_walk using it1; exact ⟨_, rfl, h.2⟩)
    · (wp_walk using it1; exact ⟨_, rfl, h.2⟩)
theorem call_en1 {prog : Program} {w : World} {A : Around} {E : Value → Shared → Prop} {s : Shared} {v : Value} {o : Obj} {HH : Heap → Prop} {Q : Value → Shared → Prop} (B : Begins v o HH) (h1 : HH s.heap)
    (h : ∀ h', IsEnum h' (s.heap.objs.size + 1) s.heap.objs.size 0 .none → h'.get? s.heap.objs.size = some o → (∀ b u, s.heap.get? b = some u → h'.get? b = some u) → Q (.ref (s.heap.objs.size + 1)) { s with heap := h' }) : wpAny (model prog w) A (call (.type "enumerate") [v]) Q E s := by
  refine callType_new F.called_enumerate (by decide) (F.typeCall_enumerate_1 _) (F.newCall_enumerate_1 _) (fun obj => F.args_object_init_2 obj _) F.entry_enumerate_new (meets_en1 B) ⟨h1, ?_⟩
  have hz : (s.heap.push o).objs.size = s.heap.objs.size + 1 := Heap.size_push ..
  have he := Heap.get?_push_size (s.heap.push o) (o := { cls := .type "enumerate", data := .fields #[.none, .bool false, .ref s.heap.objs.size, rawInt 0, .none, .none] }) rfl
  show _ ∧ _
  rw [hz] at he ⊢
  exact ⟨⟨_, he, rfl⟩, h _ he (Heap.get?_push_of_some _ (Heap.get?_push_size _ B.free)) fun b u x => Heap.get?_push_of_some _ (Heap.get?_push_of_some _ x)⟩
variable {K : PySem.W.Frag} {Δ : List Slot} {A : AE} {ta tb te : TE} {R R1 R3 : RR} {t : TT} {tu tw tz : TS} {X : Cx}
def iEnumT (K : PySem.W.Frag) (tx : TA) : TI := fun σ H W => tx σ H fun vs H1 => ∃ a xs, vs = [.ref a] ∧ SqT K H1 a xs ∧ W (IteT K a) H1
theorem pi_enumT {e : Expr} {tx : TA} {p pos tpos : Pos} {elts : List Expr} {kk : Nat} (hg : Gl X "enumerate") (hm : X.mg "enumerate" = none) (ha : PA X [e] tx) (hs : starEach [e] X.env = [(false, eval e X.env)] := by rfl) :
    PI X (.Tuple elts kk tpos) (.Call (.Name "enumerate" p) [e] [] pos) (iEnumT X.K tx) := by
  refine ⟨fun pins s σ H W I h => Call_ (ld_blt I hg hm boot_enumerate (PyProof.Rows.callWith_type1 (thn (ha.run pos pins s σ H _ I h) fun us s1 ⟨vs, H1, I1, r1, q1⟩ => ?_) hs rfl))⟩
  obtain ⟨a, xs, rfl, hq, q⟩ := q1
  obtain ⟨u, rfl, ru⟩ := vals1 r1
  obtain rfl : u = Value.ref a := ru
  obtain ⟨its, rv, p', hz⟩ := I1.tuple hq
  refine call_en1 (begins_tuple a its.toArray) (show s1.heap.IsTuple a its.toArray from p') fun h' he hi hk => wpAny_pyIter_enum he ?_
  have I2 : Inv X pins σ H1 { s1 with heap := h' } := I1.kept (t' := s1.toks) hk
  refine ⟨s1.heap.objs.size + 1, [s1.heap.objs.size + 1, s1.heap.objs.size], _, _, H1, rfl, I2, turn_enumT a (s1.heap.objs.size + 1) s1.heap.objs.size, ⟨⟨.none, he⟩, ⟨_, hi, rfl, rfl⟩, Nat.succ_ne_self _⟩, fun b hb => ?_, q⟩
  have hle : s1.heap.objs.size ≤ b := by
    rcases List.mem_cons.mp hb with z | z
    · rw [z]
      exact Nat.le_succ _
    · rw [List.mem_singleton.mp z]
      exact Nat.le_refl _
  exact I1.fpOk hle (I1.hok.fresh hle)
/-- for i, x in enumerate(tuple) -/
theorem sj_forET {tx : TA} {g : TG} {ds : List PyData} (hl : EvA tx Δ [Dat K (.tuple ds)]) (P : Nat → List Slot → Prop) (h0 : P 0 Δ)
    (hs : ∀ (i : Nat) (d : PyData) (Δ' : List Slot), ds[i]? = some d → P i Δ' → ∃ Δ'' js, GJ g (Dat K (.tuple [.int (i : Int), d])) Δ' Δ'' js ∧ SJ tu Δ'' ⟨P (i + 1), A.rt, A.nx, P (i + 1)⟩)
    (hd : ∀ Δ', P ds.length Δ' → A.nx Δ') : SJ (tFor (iEnumT K tx) g tu) Δ A := fun G0 H0 G H σ D gg s a =>
  hl H0 G H σ gg.gh gg.hh s _ fun vs G1 H1 g1 p1 => by
    match vs, p1 with
    | [v], ⟨p1, _⟩ =>
      obtain ⟨b, xs, rfl, h2, h3⟩ := Rp.isTup p1
      refine ⟨b, xs, rfl, sm_tup g1.gh h2, ?_⟩
      have hn := h3.length
      refine sj_walk (K := K) (de := fun i => .tuple [.int (i : Int), ds.getD i .none]) (walk_enumT (K := K) (a := b) (xs := xs)) (gg.trans g1) (s.grow g1) a (fun G' H' e1 e2 => sm_tup e2 (sm_tup e1 h2)) (fun i x G' H' H'' hi z hy => ?_) P h0 (fun i Δ' hi p => ?_) (fun Δ' p => hd Δ' (by rw [← hn]; exact p))
      · obtain ⟨T, x1, x2, rfl, hT, rfl, e1, e2⟩ := hy
        cases Option.some.inj e1
        obtain ⟨d, hd1, hd2⟩ := h3.getV e2
        have e3 : ds.getD i .none = d := by rw [List.getD_eq_getElem?_getD, hd1]; rfl
        refine ⟨_, (pair_new z.gh hT (Rp.mono z.gg _ _ hd2)).1, ?_⟩
        rw [e3]
        exact (pair_new z.gh hT (Rp.mono z.gg _ _ hd2)).2
      · have hi' : i < ds.length := by rw [← hn]; exact hi
        have e3 : ds.getD i .none = ds[i] := by rw [List.getD_eq_getElem?_getD, List.getElem?_eq_getElem hi']; rfl
        rw [e3]
        exact hs i ds[i] Δ' (List.getElem?_eq_getElem hi') p

/-! ### dicts whose keys are pairs of ints -/
def keyP (p : Int × Int) : List Key := [.inl p.1, .inl p.2]
def datP (p : Int × Int) : PyData := .tuple [.int p.1, .int p.2]
theorem keyP_inj {p q : Int × Int} (h : keyP p = keyP q) : p = q := by
  have h1 := (List.cons.inj h).1
  have h2 := (List.cons.inj (List.cons.inj h).2).1
  exact Prod.ext (Sum.inl.inj h1) (Sum.inl.inj h2)
def ODict (ks : List (Int × Int)) : OO := ⟨fun _ _ o => ∃ kvs : List (List Key × V), o = .dT kvs ∧ kvs.map (·.1) = ks.map keyP, fun _ h => h, fun ⟨kvs, h, _⟩ => by rw [h]; rfl⟩
theorem q_dnew {i : Nat} (hn : SJ tz (Δ.set i (.opn (ODict []))) A) : SJ (tSeq (tAsg tDNewT (gName i)) tz) Δ A := fun G0 H0 G H σ D g s a p hp =>
  hn G0 H0 G _ _ D (g.trans (Gr.newO g.gh hp)) (s.setO (O := ODict []) g.gh g.hh hp ⟨[], rfl, rfl⟩) a
/-- the keys behind d[k] = v -/
def putP (ks : List (Int × Int)) (k : Int × Int) : List (Int × Int) := if k ∈ ks then ks else ks ++ [k]
theorem keys_put {kvs : List (List Key × V)} {ks : List (Int × Int)} {k : Int × Int} {v : V} (h : kvs.map (·.1) = ks.map keyP) : (putK kvs (keyP k) v).map (·.1) = (putP ks k).map keyP := by
  unfold putK putP
  have e : (kvs.any fun kv => decide (kv.1 = keyP k)) = decide (k ∈ ks) := by
    rw [Bool.eq_iff_iff, List.any_eq_true, decide_eq_true_iff]
    constructor
    · rintro ⟨kv, hm, hk⟩
      have h1 : kv.1 ∈ kvs.map (·.1) := List.mem_map.mpr ⟨kv, hm, rfl⟩
      rw [h] at h1
      obtain ⟨q, hq, e⟩ := List.mem_map.mp h1
      rw [of_decide_eq_true hk] at e
      rw [← keyP_inj e]
      exact hq
    · intro hm
      have h1 : keyP k ∈ kvs.map (·.1) := by
        rw [h]
        exact List.mem_map.mpr ⟨k, hm, rfl⟩
      obtain ⟨kv, h2, h3⟩ := List.mem_map.mp h1
      exact ⟨kv, h2, decide_eq_true h3⟩
  rw [e]
  by_cases hk : k ∈ ks
  · rw [if_pos (decide_eq_true hk), if_pos hk, List.map_map, ← h]
    refine List.map_congr_left fun kv _ => ?_
    show (if kv.1 = keyP k then (kv.1, v) else kv).1 = kv.1
    split <;> rfl
  · rw [if_neg (by simp [hk]), if_neg hk, List.map_append, List.map_append, h]
    rfl
/-- d[a, b] = v -/
theorem sj_dput {i : Nat} {ks : List (Int × Int)} {k : Int × Int} (ei : Δ[i]? = some (.opn (ODict ks))) (hv : EvR te Δ R) (ha : EvR ta Δ (Dat K (.int k.1))) (hb : EvR tb Δ (Dat K (.int k.2))) (hl : ks.length < sizeLine) (hn : A.nx (Δ.set i (.opn (ODict (putP ks k))))) :
    SJ (sDPut (tVar i) (tTup (tCons ta (tCons tb tNil))) te) Δ A := fun G0 H0 G H σ D g s a =>
  hv H0 G H σ g.gh g.hh s _ fun v G1 H1 g1 p1 => by
    obtain ⟨b, o, h1, h2, h3, h4, kvs, rfl, h5⟩ := (s.grow g1).opn ei
    refine ⟨.ref b, h1, ha H0 G1 H1 σ g1.gh (g.trans g1).hh (s.grow g1) _ fun x G2 H2 g2 p2 => hb H0 G2 H2 σ g2.gh ((g.trans g1).trans g2).hh ((s.grow g1).grow g2) _ fun y G3 H3 g3 p3 => ⟨(by decide : 2 ≤ sizeLine), fun p hp => ?_⟩⟩
    obtain rfl := Rp.isInt p2
    obtain rfl := Rp.isInt p3
    have g4 : Gr G3 H3 G3 (upd H3 p (.tup [.int k.1, .int k.2])) := Gr.newO g3.gh hp
    have gB := (g2.trans g3).trans g4
    have k2 : G3 b = none := gB.nw b _ h4 rfl h2
    have k4 : (upd H3 p (.tup [.int k.1, .int k.2])) b = some (.dT kvs) := gB.hh b _ h4
    have hlen : kvs.length < sizeLine := by
      have := congrArg List.length h5
      rw [List.length_map, List.length_map] at this
      rw [this]
      exact hl
    refine ⟨b, _, rfl, DPut.t (k := keyP k) k4 upd_same hlen, ?_⟩
    exact a.nx σ G3 _ _ (gr_mut ((g.trans g1).trans gB) k2 h3) (((s.grow g1).grow gB).mut (O1 := ODict (putP ks k)) ei h1 k2 h3 ⟨_, rfl, keys_put h5⟩) hn
theorem isKeys_get {H : Hp} : ∀ {kvs : List (List Key × V)} {bs : List Addr}, IsKeys H kvs bs → ∀ b ∈ bs, ∃ k : List Key, H b = some (.tup (k.map kV))
  | _, _, .nil => fun b hb => absurd hb List.not_mem_nil
  | _, _, .cons h t => fun b hb => by
    rcases List.mem_cons.mp hb with z | z
    · subst z
      exact ⟨_, h⟩
    · exact isKeys_get t b z
theorem isKeys_rpa {H G : Hp} : ∀ {kvs : List (List Key × V)} {bs : List Addr} {ks : List (Int × Int)}, IsKeys H kvs bs → kvs.map (·.1) = ks.map keyP → (∀ b ∈ bs, ∀ o, H b = some o → G b = some o) → RpA K G (bs.map V.ref) (ks.map datP)
  | _, _, [], .nil, _, _ => .nil
  | _, _, _ :: _, .nil, e, _ => by cases e
  | _, _, [], .cons _ _, e, _ => by cases e
  | kv :: kvs, b :: bs, k :: ks, .cons h t, e, hG => by
    have e1 : kv.1 = keyP k := (List.cons.inj e).1
    refine .cons (.tup (SqT.of (hG b List.mem_cons_self _ h)) ?_) (isKeys_rpa t (List.cons.inj e).2 fun c hc => hG c (List.mem_cons_of_mem _ hc))
    rw [e1]
    exact .cons (.int _) (.cons (.int _) .nil)
/-- list(d) -/
theorem ev_listD {i : Nat} {ks : List (Int × Int)} (ei : Δ[i]? = some (.opn (ODict ks))) : EvR (tCB (fun xs H Q => ∃ d kvs, xs = [V.ref d] ∧ Rd H d (.dT kvs) ∧ ∀ p bs, H p = none → IsKeys H kvs bs → Q (.ref p) (upd H p (.lst (bs.map V.ref)))) (tCons (tVar i) tNil)) Δ (Dat K (.list (ks.map datP))) := fun H0 G H σ e e0 S Q q => by
  obtain ⟨a, o, h1, h2, h3, h4, kvs, rfl, h5⟩ := S.opn ei
  refine ⟨.ref a, h1, a, kvs, rfl, Rd.of h4, fun p bs hp hk => ?_⟩
  have tups := isKeys_get hk
  let G1 : Hp := fun x => if x ∈ bs then H x else G x
  have e1 : Same G G1 := fun b u x => by
    show (if b ∈ bs then H b else G b) = some u
    by_cases hb : b ∈ bs
    · rw [if_pos hb]
      exact e b u x
    · rw [if_neg hb]
      exact x
  have e2 : Same G1 H := fun b u x => by
    have x' : (if b ∈ bs then H b else G b) = some u := x
    by_cases hb : b ∈ bs
    · rw [if_pos hb] at x'
      exact x'
    · rw [if_neg hb] at x'
      exact e b u x'
  have g1 : Gr G H G1 H := ⟨Same.refl _, e1, e2, fun b u x t z => by
    show (if b ∈ bs then H b else G b) = none
    by_cases hb : b ∈ bs
    · obtain ⟨k, hk'⟩ := tups b hb
      rw [hk'] at x
      cases Option.some.inj x
      cases t
    · rw [if_neg hb]
      exact z⟩
  have g2 := Gr.new (o := .lst (bs.map V.ref)) e2 hp
  refine q _ _ _ (g1.trans g2) (.lst upd_same (RpA.mono g2.gg _ _ (isKeys_rpa hk h5 fun b hb u x => ?_)))
  show (if b ∈ bs then H b else G b) = some u
  rw [if_pos hb]
  exact x
/-! ### texts -/
/-- [e for c in text], no test -/
theorem ev_lcS {te' : TE} {g : TG} {vs : List Nat} {z : Str} (e : Nat → PyData) (hl : EvR te' Δ (Dat K (.str z))) (hz : z.cps.size < sizeLine)
    (hs : ∀ (i : Nat) (c : Nat), z.cps[i]? = some c → ∃ Δ'' js, GJ g (Dat K (.str ⟨#[c]⟩)) (wipeD Δ vs) Δ'' js ∧ (∀ j ∈ js, j ∈ vs) ∧ EvR te Δ'' (Dat K (e c))) :
    EvR (tLc (iStr te') g tYes te vs) Δ (Dat K (.list (z.cps.toList.map e))) := fun H0 G H σ ee e0 S Q q =>
  hl H0 G H σ ee e0 S _ fun v G1 H1 g1 p1 => by
    obtain rfl := Rp.isStr p1
    refine ⟨z, rfl, fun C hC => lc_it (walk_str (z := z)) (fun i H' => LcIn K G1 H1 C ((z.cps.toList.take i).map e) H') (lc_start g1.gh hC) (fun _ _ _ _ => trivial) (fun i x H' H'' hi p hy => ?_) (fun H' p => ?_)⟩
    · obtain ⟨rfl, c, hc, rfl⟩ := hy
      obtain ⟨Δ'', js, k1, k2, k3⟩ := hs i c hc
      have tk : (z.cps.toList.take (i + 1)).map e = (z.cps.toList.take i).map e ++ (if true = true then [e c] else []) := by
        rw [List.take_add_one, List.map_append, if_pos rfl]
        have h1 : z.cps.toList[i]? = some c := by rw [Array.getElem?_toList]; exact hc
        rw [h1]
        rfl
      rw [tk]
      have hlen : ((z.cps.toList.take i).map e).length < sizeLine := by
        rw [List.length_map, List.length_take, Array.length_toList]
        omega
      exact lc_turn hC g1.gh (e0.trans g1.hh) (S.grow g1) (.str _) k1 k2 et_yes (fun _ => k3) hlen p
    · have e1 : z.cps.toList.take z.cps.size = z.cps.toList := List.take_of_length_le (by rw [Array.length_toList]; exact Nat.le_refl _)
      rw [e1] at p
      exact lc_end g1 hC q p
end DL
/-! D5: max with a default, isinstance. -/
namespace DL
open PySem PySem.Spec PyProof.Rows L2
section
variable {prog : Program} {w : World} {A : Around} {RR' : Result → Shared → Prop} {I : Addr} {fp wr : List Addr} {n : Nat} {P : Nat → Value → Prop} {St : Nat → Heap → Prop}
/-- the best so far, as the loop keeps it -/
def BestAt (P : Nat → Value → Prop) (bt : Nat → Nat → Bool) (j : Nat) (arr : Array Value) : Prop := (j = 0 ∧ arr = #[]) ∨ ∃ m vb, j = m + 1 ∧ arr = #[vb, vb] ∧ P (argBest bt m) vb
theorem maxD_loop (W : Walks prog w A.in1 I fp wr n P St) (bt : Nat → Nat → Bool) (hc : CmpOf prog w A.in1 .Gt P bt) (S : Addr) (hS : S ∉ fp) (dv : Value) :
    ∀ (k j : Nat) (s : Shared) (arr : Array Value) (c : Nat), n - j = k → j ≤ n → St j s.heap → BestAt P bt j arr → s.heap.get? S = some (seqObj "list" arr c) →
    (∀ v h' tk, ((n = 0 ∧ v = dv) ∨ (0 < n ∧ P (argBest bt (n - 1)) v)) → (∀ b o, b ∉ wr → b ≠ S → s.heap.get? b = some o → h'.get? b = some o) → RR' (.ok (.ret v)) { s with heap := h', toks := tk }) →
    codeAny (model prog w) A (.builtin "max.loop" ⟨[.ref I, .none, .ref S], [(Str.ofString "default", dv)]⟩) RR' s := by
  have nSw : S ∉ wr := fun h => hS (W.sub _ h)
  have nm : (toString "max" ++ toString ".loop" : String) = "max.loop" := by decide
  intro k
  induction k with
  | zero =>
    intro j s arr c hk hj hst hB eS hR
    obtain rfl : j = n := by omega
    refine codeAny_builtin F.entry_max_loop (by
      rw [Around.under_plainId F.plain_max_loop _]
      refine (show wpAny _ A.in1 (seqItems? (.ref S) >>= _) _ _ s from wpAny_bind (wpAny_seqItems eS rfl ?_))
      refine (show wpAny _ A.in1 (tryCatch (pyNext (.ref I)) _ >>= _) _ _ s from wpAny_bind (wpAny_tryCatch (W.done s _ _ hst fun h' tk kp => ?_)))
      have eS' := kp S _ nSw eS
      rcases hB with ⟨z, rfl⟩ | ⟨m, vb, z, rfl, hp⟩
      · refine (show wpAny (model prog w) A.in1 (rule (toString "max" ++ toString ".default") >>= fun _ => ret dv) _ _ _ from wpAny_bind (wpAny_rule (wpAny_pure ?_)))
        exact hR dv h' tk (.inl ⟨z, rfl⟩) fun b o hb _ e => kp b o hb e
      · refine (show wpAny _ A.in1 (updateSeq S (fun _ => #[]) >>= _) _ _ _ from wpAny_bind (wpAny_updateSeq eS' rfl (wpAny_bind (wpAny_letGo (wpAny_pure ?_)))))
        refine hR vb _ tk (.inr ⟨by omega, by rw [z]; exact hp⟩) fun b o hb hbS e => ?_
        rw [Heap.get?_update_other _ _ (Ne.symm hbS)]
        exact kp b o hb e)
  | succ k ih =>
    intro j s arr c hk hj hst hB eS hR
    have lt : j < n := by omega
    refine codeAny_builtin F.entry_max_loop (by
      rw [Around.under_plainId F.plain_max_loop _]
      refine (show wpAny _ A.in1 (seqItems? (.ref S) >>= _) _ _ s from wpAny_bind (wpAny_seqItems eS rfl ?_))
      refine (show wpAny _ A.in1 (tryCatch (pyNext (.ref I)) _ >>= _) _ _ s from wpAny_bind (wpAny_tryCatch (W.item j s _ _ lt hst fun v h' tk hv hst' kp => ?_)))
      have eS' := kp S _ nSw eS
      have upS : ∀ f : Array Value → Array Value, St (j + 1) (h'.update S (Obj.mapSeq f)) := fun f => W.frame _ _ _ hst' fun b hb o e => by
        rw [Heap.get?_update_other _ _ (fun z : S = b => hS (by rw [z]; exact hb))]
        exact e
      have upK : ∀ (f : Array Value → Array Value) (h'' : Heap), (∀ b o, b ∉ wr → b ≠ S → (h'.update S (Obj.mapSeq f)).get? b = some o → h''.get? b = some o) → ∀ b o, b ∉ wr → b ≠ S → s.heap.get? b = some o → h''.get? b = some o := fun f h'' k2 b o hb hbS e => k2 b o hb hbS (by
        rw [Heap.get?_update_other _ _ (Ne.symm hbS)]
        exact kp b o hb e)
      rcases hB with ⟨z, rfl⟩ | ⟨m, vb, z, rfl, hp⟩
      · subst z
        refine (show wpAny _ A.in1 (updateSeq S (fun _ => #[v, v]) >>= _) _ _ _ from wpAny_bind (wpAny_updateSeq eS' rfl ?_))
        rw [nm]
        exact wpAny_pure ⟨plainId_quiet F.plain_max_loop _, ih 1 _ #[v, v] _ (by omega) lt (upS _) (.inr ⟨0, v, rfl, rfl, hv⟩) (Heap.get?_update_self _ eS' rfl) fun v' h'' tk'' q1 q2 => hR v' h'' tk'' q1 (upK _ _ q2)⟩
      · subst z
        refine (show wpAny _ A.in1 (tryCatch (holding [v, v] (richCompare .Gt v vb >>= _)) _ >>= _) _ _ _ from wpAny_bind (wpAny_tryCatch (wpAny_holding (wpAny_bind (hc (m + 1) (argBest bt m) v vb _ _ _ hv hp ?_)))))
        refine wpAny_bind (wpAny_holding (wpAny_truthy_bool (wpAny_bind (wpAny_letGo (wpAny_pure ?_)))))
        cases hb : bt (m + 1) (argBest bt m)
        · have best : argBest bt (m + 1) = argBest bt m := by simp only [argBest, hb, Bool.false_eq_true, if_false]
          simp only [Bool.false_eq_true, if_false]
          refine wpAny_bind (wpAny_letGo ?_)
          rw [nm]
          exact wpAny_pure ⟨plainId_quiet F.plain_max_loop _, ih (m + 2) _ #[vb, vb] c (by omega) lt hst' (.inr ⟨m + 1, vb, rfl, rfl, by rw [best]; exact hp⟩) eS' fun v' h'' tk'' q1 q2 => hR v' h'' tk'' q1 fun b o hb hbS e => q2 b o hb hbS (kp b o hb e)⟩
        · have best : argBest bt (m + 1) = m + 1 := by simp only [argBest, hb, if_true]
          simp only [if_true]
          refine wpAny_bind (wpAny_updateSeq eS' rfl (wpAny_bind (wpAny_letGo ?_)))
          rw [nm]
          exact wpAny_pure ⟨plainId_quiet F.plain_max_loop _, ih (m + 2) _ #[v, v] _ (by omega) lt (upS _) (.inr ⟨m + 1, v, rfl, rfl, by rw [best]; exact hv⟩) (Heap.get?_update_self _ eS' rfl) fun v' h'' tk'' q1 q2 => hR v' h'' tk'' q1 (upK _ _ q2)⟩)
end
theorem args_maxD (a v : Value) : argsOk "max" ⟨[a], [(Str.ofString "default", v)]⟩ := by unfold argsOk; kernel_rfl
section
variable {prog : Program} {w : World} {A : Around} {E : Value → Shared → Prop} {s : Shared}
theorem maxD_raw {l : Addr} {its : List Value} {ns : List Int} {dv : Value} {Q : Value → Shared → Prop} (hh : A.handled = none) (hl : s.heap.IsList l its.toArray) (hi : IntsAre its ns)
    (h0 : ns = [] → ∀ h' tk, (∀ b o, s.heap.get? b = some o → h'.get? b = some o) → Q dv { s with heap := h', toks := tk })
    (h : ∀ h' tk m t', (∀ b o, s.heap.get? b = some o → h'.get? b = some o) → m ∈ ns → (∀ a, a ∈ ns → a ≤ m) → Q (.int m t') { s with heap := h', toks := tk }) : wpAny (model prog w) A (call (.builtin "max") [.ref l] [(Str.ofString "default", dv)]) Q E s := by
  obtain ⟨xs, e⟩ := hi.allInts.items
  have hn : numsOf (intItems xs).toList = ns := by rw [← e]; exact hi.numsOf
  rw [nums_intItems] at hn
  subst hn
  rw [e] at hl
  have nm : (toString "max" ++ toString ".loop" : String) = "max.loop" := by decide
  refine kmk_tree F.kind_max F.plain_max F.entry_max (args_maxD _ _) ?_
  refine (show wpAny _ A.in1 (Builtin.Builtins.bindParams "max" ["key", "default"] 0 ⟨[], [(Str.ofString "default", dv)]⟩ >>= _) _ _ s from wpAny_bind (wpAny_of_eq (show Builtin.Builtins.bindParams "max" ["key", "default"] 0 ⟨[], [(Str.ofString "default", dv)]⟩ = pure [none, some dv] from rfl) ?_))
  refine wpAny_bind (wpAny_pure (wpAny_bind (iter_intList (xs := xs) hl fun s₂ e2 st hfp hlI => ?_)))
  subst e2
  refine wpAny_bind (wpAny_newObj_type ?_)
  rw [nm]
  have W := Walks.list (prog := prog) (w := w) (A := A.in1) hh s.heap.objs.size l hlI (intItems xs)
  refine wpAny_pure ⟨plainId_quiet F.plain_max_loop _, maxD_loop W _ (CmpOf.ints_gt (numAt xs) (fun _ _ => intItems_at)) _ (fun hm => Nat.lt_irrefl _ (hfp _ hm)) dv _ 0 _ #[] _ rfl (Nat.zero_le _) (W.frame _ _ _ st fun b _ o x => Heap.get?_push_of_some _ x) (.inl ⟨rfl, rfl⟩) (Heap.get?_push_size _ rfl) fun v h' tk q1 kp => ?_⟩
  have kp' : ∀ b o, s.heap.get? b = some o → h'.get? b = some o := fun b o x => by
    have lt := Heap.lt_size x
    have y : (s.heap.push { cls := .type "list_iterator", data := .fields #[.ref l, .int 0 0] }).get? b = some o := Heap.get?_push_of_some _ x
    refine kp b o (fun z => ?_) (fun z => ?_) (Heap.get?_push_of_some _ y)
    · rw [List.mem_singleton.mp z] at lt
      exact Nat.lt_irrefl _ lt
    · rw [z, Heap.size_push] at lt
      exact Nat.lt_irrefl _ (Nat.lt_trans (Nat.lt_succ_self _) lt)
  rcases q1 with ⟨z, rfl⟩ | ⟨z, hp⟩
  · refine h0 ?_ h' tk kp'
    have z' : xs.size = 0 := by simpa [intItems] using z
    exact List.eq_nil_of_length_eq_zero (by rw [List.length_map, Array.length_toList]; exact z')
  · obtain ⟨t', rfl⟩ := intItems_at hp
    have hsz : (intItems xs).size = xs.size := by simp [intItems]
    rw [hsz] at z hp ⊢
    obtain ⟨h1, h2⟩ := argBest_gt (numAt xs) (xs.size - 1)
    refine h h' tk _ t' kp' ?_ fun a ha => ?_
    · rw [numAt_eq]
      exact PySem.getD_mem (by rw [List.length_map, Array.length_toList]; omega)
    · obtain ⟨j, hj, rfl⟩ := mem_getD ha
      rw [List.length_map, Array.length_toList] at hj
      rw [← numAt_eq]
      exact h2 j (by omega)
end
section
variable {X : Cx}
def rMaxD (K : PySem.W.Frag) : List V → List V → Hp → VK → Prop := fun vs zs H Q => ∃ (a : Addr) (ns : List Int) (d : V), vs = [V.ref a] ∧ zs = [d] ∧ SqL K H a (ns.map V.int) ∧ (ns = [] → Q d H) ∧ ∀ m, m ∈ ns → (∀ y, y ∈ ns → y ≤ m) → Q (.int m) H
theorem cr_maxD (hc : X.calm = true) : CallRK X (.builtin "max") [Str.ofString "default"] (rMaxD X.K) := by
  intro pins s σ H xs zs us ws Q I r rz h
  obtain ⟨a, ns, d, rfl, rfl, hs, q0, q⟩ := h
  obtain ⟨its, rv, hl, hz⟩ := I.list hs
  obtain ⟨u, rfl, ru⟩ := vals1 r
  obtain ⟨y, rfl, ry⟩ := vals1 rz
  obtain rfl : u = Value.ref a := ru
  exact maxD_raw (I.ok.hd hc) hl.isList (Vals.ints rv) (fun e h' tk kp => ⟨d, H, I.kept (t' := tk) kp, ry, q0 e⟩) fun h' tk m t' kp m1 m2 => ⟨.int m, H, I.kept (t' := tk) kp, ⟨t', rfl⟩, q m m1 m2⟩
end
variable {K : PySem.W.Frag} {Δ : List Slot}
/-- max(ns, default=d) -/
theorem ev_maxD {tx tk : TA} {ns : List Int} {d m : Int} (h : EvA tx Δ [Dat K (.list (ns.map .int))]) (hk : EvA tk Δ [Dat K (.int d)]) (h0 : ns = [] → m = d) (h1 : ns ≠ [] → IsMax m ns) : EvR (tCKw (rMaxD K) tx tk) Δ (Dat K (.int m)) := fun H0 G H σ e e0 S Q q =>
  h H0 G H σ e e0 S _ fun vs G1 H1 g1 p1 => hk H0 G1 H1 σ g1.gh (e0.trans g1.hh) (S.grow g1) _ fun zs G2 H2 g2 p2 => by
    match vs, p1, zs, p2 with
    | [v], ⟨p1, _⟩, [z], ⟨p2, _⟩ =>
      obtain ⟨a, xs, rfl, h2, h3⟩ := Rp.isLst p1
      obtain rfl := Rp.isInt p2
      obtain rfl := RpA.ints h3
      refine ⟨a, ns, _, rfl, rfl, SqL.of (g2.hh _ _ (g1.gh _ _ h2)), fun z => ?_, fun k k1 k2 => ?_⟩
      · rw [← h0 z]
        exact q _ G2 H2 (g1.trans g2) (.int _)
      · obtain rfl := (h1 (List.ne_nil_of_mem k1)).uniq ⟨k1, k2⟩
        exact q _ G2 H2 (g1.trans g2) (.int _)
/-! ### isinstance -/
theorem rp_tyT {G H : Hp} {v : V} {ds : List PyData} (e : Same G H) (h : Rp K G v (.tuple ds)) : TyX K H v (.type "tuple") := by
  obtain ⟨a, xs, rfl, h2, _⟩ := Rp.isTup h
  rcases sm_tup e h2 with (h | ⟨o, h⟩) | ⟨o, its, n, h1, h2, _⟩
  · exact .base (.tup h)
  · exact .fTuple h
  · exact .kTuple h1 h2
/-- isinstance(t, (tuple, list)) of a tuple -/
theorem ev_isTL {tx : TA} {tu : TE} {ds : List PyData} (h : EvR tu Δ (Dat K (.tuple ds))) : EvR (tCB (rIsiT K) (tCons tu (tCons (tTup (tCons (tC (.ty "tuple")) (tCons (tC (.ty "list")) tNil))) tNil))) Δ (Dat K (.bool true)) := fun H0 G H σ e e0 S Q q =>
  h H0 G H σ e e0 S _ fun v G1 H1 g1 p1 => ⟨(by decide : 2 ≤ sizeLine), fun p hp => ⟨v, p, [.ty "tuple", .ty "list"], .type "tuple", [.type "tuple", .type "list"], true, rfl, upd_same, .cons (.ty _) (.cons (.ty _) .nil), rp_tyT (g1.gh.trans (sm_new hp)) p1,
    kitAny_cons (b := true) (kit_ty (by decide +kernel)) (fun z => by cases z) (fun _ => rfl), q _ G1 _ (g1.trans (Gr.newO g1.gh hp)) (.bl _)⟩⟩
theorem cb_isInt {i : Int} : CbE (rIsi K) [Dat K (.int i), EqR (.ty "int")] (Dat K (.bool true)) := fun G H vs e p Q q => by
  match vs, p with
  | [v, u], ⟨p1, p2, _⟩ =>
    obtain rfl := Rp.isInt p1
    obtain rfl := p2
    exact ⟨_, _, .type "int", .type "int", true, rfl, .ty _, .base (.int i), kit_ty (by decide +kernel), q _ G H (Gr.refl e) (.bl _)⟩
end DL
/-! D6: the layer's rules with the written part named. -/
namespace DL
open PySem PySem.Spec PyProof.Rows L2
variable {X : Cx} {a b e o : Expr} {ta tb te to : TE} {tx : TA} {pos cpos apos : Pos} {es : List Expr}
section
variable (K : PySem.W.Frag) (h : X.K = K := by rfl)
include h
theorem kix_list : IxR X (rIxL K) := h ▸ ix_list
theorem kix_tup : IxR X (rIxT K) := h ▸ ix_tup
theorem ksl_list : SlR X (rSlL K) := h ▸ sl_list
theorem ksl_tup : SlR X (rSlT K) := h ▸ sl_tup
theorem kop_in_seq : OpR X (compareOp .In) (rIn K false) := h ▸ op_in_seq
theorem kop_inS (hu : X.A.units + 65 < cLine) : OpR X (compareOp .In) (rInS K false) := h ▸ op_inS hu
theorem kop_niS (hu : X.A.units + 65 < cLine) : OpR X (compareOp .NotIn) (rInS K true) := h ▸ op_niS hu
theorem kop_eqD (hu : X.A.units + 64 < cLine) : OpR X (compareOp .Eq) (rEqD K) := h ▸ op_eqD hu
theorem kop_neD (hu : X.A.units + 64 < cLine) : OpR X (compareOp .NotEq) (rNeD K) := h ▸ op_neD hu
end
section
variable (K : PySem.W.Frag)
def rLenS : List V → Hp → VK → Prop := fun xs H Q => ∃ p ys, xs = [.ref p] ∧ (SqL K H p ys ∨ SqT K H p ys) ∧ Q (.int ys.length) H
def rListOf : List V → Hp → VK → Prop := fun xs H Q => ∃ p ys, xs = [.ref p] ∧ (SqL K H p ys ∨ SqT K H p ys) ∧ ∀ l, H l = none → Q (.ref l) (upd H l (.lst ys))
def rTupOf : List V → Hp → VK → Prop := fun xs H Q => ∃ p ys, xs = [.ref p] ∧ ((SqL K H p ys ∧ ∀ l, H l = none → Q (.ref l) (upd H l (.tup ys))) ∨ (SqT K H p ys ∧ Q (.ref p) H))
def rListDT : List V → Hp → VK → Prop := fun xs H Q => ∃ d kvs, xs = [V.ref d] ∧ Rd H d (.dT kvs) ∧ ∀ p bs, H p = none → IsKeys H kvs bs → Q (.ref p) (upd H p (.lst (bs.map V.ref)))
variable (h : X.K = K := by rfl)
include h
theorem kc_len : CallR X (.builtin "len") (rLenS K) := h ▸ call_len_seq
theorem kc_list : CallR X (.type "list") (rListOf K) := h ▸ call_list_of
theorem kc_tuple : CallR X (.type "tuple") (rTupOf K) := h ▸ call_tuple_of
theorem kc_all (hc : X.calm = true) : CallR X (.builtin "all") (rAll K) := h ▸ cr_all hc
theorem kc_min (hc : X.calm = true) : CallR X (.builtin "min") (rMin K) := h ▸ cr_min hc
theorem kc_max (hc : X.calm = true) : CallR X (.builtin "max") (rMax K) := h ▸ cr_max hc
theorem kc_sorted (hu : X.A.units + 64 < cLine) : CallR X (.builtin "sorted") (rSortedD K) := h ▸ cr_sortedD hu
theorem kc_maxD (hc : X.calm = true) : CallRK X (.builtin "max") [Str.ofString "default"] (rMaxD K) := h ▸ cr_maxD hc
theorem kc_isi : CallR X (.builtin "isinstance") (rIsi K) := h ▸ call_isi
theorem kc_isiT : CallR X (.builtin "isinstance") (rIsiT K) := h ▸ call_isiT
theorem kpe_fld {f : Str} (he : PE X e te) (hb : attributeBase e f X.env (eval e X.env) = eval e X.env) : PE X (.Attribute e f pos) (tFld K te f) := h ▸ pe_fld he hb
theorem kps_fld {f : Str} {tv : TE} {value : Expr} {pos' : Pos} (ha : PE X o ta) (hv : PE X value tv) (hs : swapsWith value (some (.Attribute o f pos')) pos.line X.env = pure false) : PS X (.Assign [.Attribute o f pos'] value pos) (sFld K ta tv f) := h ▸ ps_fld ha hv hs
theorem kpi_list {tg l : Expr} {tl : TE} (hl : PE X l tl) : PI X tg l (iList K tl) := h ▸ pi_list hl
theorem kpi_tup {tg l : Expr} {tl : TE} (hl : PE X l tl) : PI X tg l (iTup K tl) := h ▸ pi_tup hl
theorem kpi_enum {p tpos : Pos} {elts : List Expr} {kk : Nat} (hg : Gl X "enumerate") (hm : X.mg "enumerate" = none) (ha : PA X [e] tx) (hs : starEach [e] X.env = [(false, eval e X.env)] := by rfl) : PI X (.Tuple elts kk tpos) (.Call (.Name "enumerate" p) [e] [] pos) (iEnum K tx) := h ▸ pi_enum hg hm ha hs
theorem kpi_enumT {p tpos : Pos} {elts : List Expr} {kk : Nat} (hg : Gl X "enumerate") (hm : X.mg "enumerate" = none) (ha : PA X [e] tx) (hs : starEach [e] X.env = [(false, eval e X.env)] := by rfl) : PI X (.Tuple elts kk tpos) (.Call (.Name "enumerate" p) [e] [] pos) (iEnumT K tx) := h ▸ pi_enumT hg hm ha hs
theorem kpg_tup {es : List Expr} {k : Nat} {t : TGs} {n : Nat} (hc : X.calm = true) (hp : PGs X es t) (hn : (assignEach es X.env).length = n := by rfl) (hst : (assignEach es X.env).findIdx? (·.1) = none := by rfl) : PG X (.Tuple es k pos) (gTup K n t) := by
  subst h
  exact pg_tup hc hp hn hst
def tTru (ta : TE) : TT := fun σ H Q => ta σ H fun x H' => ∃ k, TruV K x H' k ∧ Q k H'
theorem kpt_truth (ha : PE X a ta) (he : ∀ whole, isTrue a X.env whole = (do let v ← whole; standAt a.pos; holding [v] (truthy v))) : PT X a (tTru K ta) := by
  subst h
  exact pt_truth ha he
theorem kps_app (ho : PE X o to) (ha : PA X (e :: es) tx)
    (hbase : attributeBase o "append" X.env (eval o X.env) = eval o X.env := by rfl)
    (hfew : ((backTo cpos (starEach (e :: es) X.env)).all (fun x => !x.1) && (backToKw cpos (keywordEach [] X.env)).all (fun x => x.1.isSome)
      && decide ((e :: es).length + ([] : List Keyword).length + (if ([] : List Keyword).isEmpty then 0 else 1) < 30)) = true := by rfl)
    (hline : (apos.endLine == cpos.line) = true := by rfl) (hs : starEach (e :: es) X.env = (false, eval e X.env) :: starEach es X.env := by rfl) (hplain : (backTo cpos (starEach es X.env)).any (·.1) = false := by rfl)
    (hsw : swapsWith (.Call (.Attribute o "append" apos) (e :: es) [] cpos) none pos.line X.env = pure false := by rfl) :
    PS X (.Expr (.Call (.Attribute o "append" apos) (e :: es) [] cpos) pos) (tDrop (tBM K "list" rAppend to tx)) := by
  subst h
  exact ps_expr (pe_bm PySem.F.plainAttrs_list PySem.F.slot_list_append PySem.F.type_list_append mt_append ho ha hbase hfew hline hs hplain) hsw
end
section
variable {K : PySem.W.Frag} {Δ : List Slot}
theorem kb_lenL {ds : List PyData} : CbE (rLenS K) [Dat K (.list ds)] (Dat K (.int ds.length)) := cb_len_seqL
theorem kb_lenT {ds : List PyData} : CbE (rLenS K) [Dat K (.tuple ds)] (Dat K (.int ds.length)) := cb_len_seqT
theorem kb_tupL {ds : List PyData} : CbE (rTupOf K) [Dat K (.list ds)] (Dat K (.tuple ds)) := cb_tupleL
theorem kb_tupT {ds : List PyData} : CbE (rTupOf K) [Dat K (.tuple ds)] (Dat K (.tuple ds)) := cb_tupleT
theorem kt_truL {ds : List PyData} (ha : EvR ta Δ (Dat K (.list ds))) : EvT (tTru K ta) Δ (!ds.isEmpty) := et_truL ha
theorem ev_listDT {i : Nat} {ks : List (Int × Int)} (ei : Δ[i]? = some (.opn (ODict ks))) : EvR (tCB rListDT (tCons (tVar i) tNil)) Δ (Dat K (.list (ks.map datP))) := ev_listD ei
/-- list(xs) of a list of the module -/
theorem ev_listW {v : V} {xs : List V} {a : Addr} {ds : List PyData} (hs : ∀ H, SqL K H a xs) (hd : ∀ G, RpA K G xs ds) : EvR (tCB (rListOf K) (tCons (tC (.ref a)) tNil)) Δ (Dat K (.list ds)) := fun H0 G H σ e e0 S Q q =>
  ⟨a, xs, rfl, .inl (hs H), fun l hl => q _ (upd G l (.lst xs)) _ (Gr.new e hl) (.lst upd_same (hd _))⟩
/-- xs[i] of a list of the module -/
theorem ev_ixW {v : V} {xs : List V} {a : Addr} {i : Int} {R : RR} (hs : ∀ H, SqL K H a xs) (hb : EvR tb Δ (Dat K (.int i))) (hv : atI xs i = some v) (hR : ∀ G, R.p G v) : EvR (tOp (rIxL K) (tC (.ref a)) tb) Δ R := fun H0 G H σ e e0 S Q q =>
  hb H0 G H σ e e0 S _ fun y G1 H1 g1 p1 => ⟨a, xs, i, v, rfl, p1.isInt, hs H1, hv, q v G1 H1 g1 (hR G1)⟩
theorem filt_true {α : Type} (xs : List α) : xs.filter (fun _ => true) = xs := List.filter_eq_self.mpr fun _ _ => rfl
/-- comprehensions without a test -/
theorem ev_lcL0 {α : Type} {tl : TE} {g : TG} {vs : List Nat} {xs : List α} {enc : α → PyData} (e : α → PyData) (hl : EvR tl Δ (Dat K (.list (xs.map enc)))) (hz : xs.length < sizeLine)
    (hs : ∀ x ∈ xs, ∃ Δ'' js, GJ g (Dat K (enc x)) (wipeD Δ vs) Δ'' js ∧ (∀ j ∈ js, j ∈ vs) ∧ EvR te Δ'' (Dat K (e x))) : EvR (tLc (iList K tl) g tYes te vs) Δ (Dat K (.list (xs.map e))) :=
  (ev_lcL (fun _ => true) e hl hz fun x hx => let ⟨Δ'', js, h1, h2, h3⟩ := hs x hx; ⟨Δ'', js, h1, h2, et_yes, fun _ => h3⟩).cast (by rw [filt_true])
theorem ev_lcT0 {α : Type} {tl : TE} {g : TG} {vs : List Nat} {xs : List α} {enc : α → PyData} (e : α → PyData) (hl : EvR tl Δ (Dat K (.tuple (xs.map enc)))) (hz : xs.length < sizeLine)
    (hs : ∀ x ∈ xs, ∃ Δ'' js, GJ g (Dat K (enc x)) (wipeD Δ vs) Δ'' js ∧ (∀ j ∈ js, j ∈ vs) ∧ EvR te Δ'' (Dat K (e x))) : EvR (tLc (iTup K tl) g tYes te vs) Δ (Dat K (.list (xs.map e))) :=
  (ev_lcT (fun _ => true) e hl hz fun x hx => let ⟨Δ'', js, h1, h2, h3⟩ := hs x hx; ⟨Δ'', js, h1, h2, et_yes, fun _ => h3⟩).cast (by rw [filt_true])
theorem ev_lcR10 {tx : TA} {g : TG} {vs : List Nat} {n : Int} (e : Nat → PyData) (hl : EvA tx Δ [Dat K (.int n)]) (hn : -(2 ^ 62) ≤ n ∧ n.toNat < sizeLine)
    (hs : ∀ i, i < n.toNat → ∃ Δ'' js, GJ g (Dat K (.int (i : Int))) (wipeD Δ vs) Δ'' js ∧ (∀ j ∈ js, j ∈ vs) ∧ EvR te Δ'' (Dat K (e i))) : EvR (tLc (iRng1 tx) g tYes te vs) Δ (Dat K (.list ((List.range n.toNat).map e))) :=
  (ev_lcR1 (fun _ => true) e hl hn fun x hx => let ⟨Δ'', js, h1, h2, h3⟩ := hs x hx; ⟨Δ'', js, h1, h2, et_yes, fun _ => h3⟩).cast (by rw [filt_true])
end
end DL
/-! T0: the text by places, and what the top has left. -/
namespace CU
open PySem PySem.Spec PyProof.Rows L2 DL
def dirs : List (Int × Int) := [(-1, -1), (-1, 0), (-1, 1), (0, -1), (0, 1), (1, -1), (1, 0), (1, 1)]
def topS (i : Nat) : Stmt := PySem.Challenge.pw_cushioned_k54_whole_aims_on_great_tables.main.body.getD i (.Pass ⟨0, 0, 0, 0⟩)
abbrev s_require : Stmt := topS 10
abbrev N_require : List Str := ["holds"]
abbrev p_require : List Str := ["holds"]
theorem sc_require : FnScope N_require p_require (defScope s_require) := ⟨rfl, rfl, rfl, by decide +kernel, rfl, by decide +kernel, by decide +kernel⟩
abbrev s_Table_init : Stmt := inClass (topS 11) 0
abbrev N_Table_init : List Str := ["self", "width", "height", "pockets", "point", "number"]
abbrev p_Table_init : List Str := ["self", "width", "height", "pockets"]
theorem sc_Table_init : FnScope N_Table_init p_Table_init (defScope s_Table_init) := ⟨rfl, rfl, rfl, by decide +kernel, rfl, by decide +kernel, by decide +kernel⟩
abbrev s_Table_is_point : Stmt := inClass (topS 11) 1
abbrev N_Table_is_point : List Str := ["self", "point"]
abbrev p_Table_is_point : List Str := ["self", "point"]
theorem sc_Table_is_point : FnScope N_Table_is_point p_Table_is_point (defScope s_Table_is_point) := ⟨rfl, rfl, rfl, by decide +kernel, rfl, by decide +kernel, by decide +kernel⟩
abbrev s_Table_check_point : Stmt := inClass (topS 11) 2
abbrev N_Table_check_point : List Str := ["self", "point"]
abbrev p_Table_check_point : List Str := ["self", "point"]
theorem sc_Table_check_point : FnScope N_Table_check_point p_Table_check_point (defScope s_Table_check_point) := ⟨rfl, rfl, rfl, by decide +kernel, rfl, by decide +kernel, by decide +kernel⟩
abbrev s_Table_is_pocket : Stmt := inClass (topS 11) 5
abbrev N_Table_is_pocket : List Str := ["self", "point"]
abbrev p_Table_is_pocket : List Str := ["self", "point"]
theorem sc_Table_is_pocket : FnScope N_Table_is_pocket p_Table_is_pocket (defScope s_Table_is_pocket) := ⟨rfl, rfl, rfl, by decide +kernel, rfl, by decide +kernel, by decide +kernel⟩
abbrev s_is_name : Stmt := topS 15
abbrev N_is_name : List Str := ["text", "char"]
abbrev p_is_name : List Str := ["text"]
theorem sc_is_name : FnScope N_is_name p_is_name (defScope s_is_name) := ⟨rfl, rfl, rfl, by decide +kernel, rfl, by decide +kernel, by decide +kernel⟩
abbrev s_is_ball : Stmt := topS 16
abbrev N_is_ball : List Str := ["table", "ball", "_", "x", "y", "dx", "dy", "minute"]
abbrev p_is_ball : List Str := ["table", "ball"]
theorem sc_is_ball : FnScope N_is_ball p_is_ball (defScope s_is_ball) := ⟨rfl, rfl, rfl, by decide +kernel, rfl, by decide +kernel, by decide +kernel⟩
abbrev s_check_ball : Stmt := topS 17
abbrev N_check_ball : List Str := ["table", "ball"]
abbrev p_check_ball : List Str := ["table", "ball"]
theorem sc_check_ball : FnScope N_check_ball p_check_ball (defScope s_check_ball) := ⟨rfl, rfl, rfl, by decide +kernel, rfl, by decide +kernel, by decide +kernel⟩
abbrev s_inverse : Stmt := topS 20
abbrev N_inverse : List Str := ["number", "modulus", "left", "right", "factor", "following", "quotient"]
abbrev p_inverse : List Str := ["number", "modulus"]
theorem sc_inverse : FnScope N_inverse p_inverse (defScope s_inverse) := ⟨rfl, rfl, rfl, by decide +kernel, rfl, by decide +kernel, by decide +kernel⟩
abbrev s_chinese : Stmt := topS 21
abbrev N_chinese : List Str := ["one", "other", "first", "size", "second", "width", "divisor", "step", "modulus"]
abbrev p_chinese : List Str := ["one", "other"]
theorem sc_chinese : FnScope N_chinese p_chinese (defScope s_chinese) := ⟨rfl, rfl, rfl, by decide +kernel, rfl, by decide +kernel, by decide +kernel⟩
abbrev s_solved : Stmt := topS 22
abbrev N_solved : List Str := ["factor", "right", "modulus"]
abbrev p_solved : List Str := ["factor", "right", "modulus"]
theorem sc_solved : FnScope N_solved p_solved (defScope s_solved) := ⟨rfl, rfl, rfl, by decide +kernel, rfl, by decide +kernel, by decide +kernel⟩
abbrev s_united : Stmt := topS 23
abbrev N_united : List Str := ["one", "other", "found", "remainder", "modulus"]
abbrev p_united : List Str := ["one", "other"]
theorem sc_united : FnScope N_united p_united (defScope s_united) := ⟨rfl, rfl, rfl, by decide +kernel, rfl, by decide +kernel, by decide +kernel⟩
abbrev s_point_classes : Stmt := topS 24
abbrev N_point_classes : List Str := ["size", "at", "step", "goal"]
abbrev p_point_classes : List Str := ["size", "at", "step", "goal"]
theorem sc_point_classes : FnScope N_point_classes p_point_classes (defScope s_point_classes) := ⟨rfl, rfl, rfl, by decide +kernel, rfl, by decide +kernel, by decide +kernel⟩
abbrev s_meeting_classes : Stmt := topS 25
abbrev N_meeting_classes : List Str := ["size", "at", "step", "other", "move"]
abbrev p_meeting_classes : List Str := ["size", "at", "step", "other", "move"]
theorem sc_meeting_classes : FnScope N_meeting_classes p_meeting_classes (defScope s_meeting_classes) := ⟨rfl, rfl, rfl, by decide +kernel, rfl, by decide +kernel, by decide +kernel⟩
abbrev s_crossed : Stmt := topS 26
abbrev N_crossed : List Str := ["one", "other", "found", "first", "second", "common", "modulus", "remainder"]
abbrev p_crossed : List Str := ["one", "other"]
theorem sc_crossed : FnScope N_crossed p_crossed (defScope s_crossed) := ⟨rfl, rfl, rfl, by decide +kernel, rfl, by decide +kernel, by decide +kernel⟩
abbrev s_is_class : Stmt := topS 29
abbrev N_is_class : List Str := ["one", "part"]
abbrev p_is_class : List Str := ["one"]
theorem sc_is_class : FnScope N_is_class p_is_class (defScope s_is_class) := ⟨rfl, rfl, rfl, by decide +kernel, rfl, by decide +kernel, by decide +kernel⟩
abbrev s_are_apart : Stmt := topS 30
abbrev N_are_apart : List Str := ["one", "other", "divisor"]
abbrev p_are_apart : List Str := ["one", "other"]
theorem sc_are_apart : FnScope N_are_apart p_are_apart (defScope s_are_apart) := ⟨rfl, rfl, rfl, by decide +kernel, rfl, by decide +kernel, by decide +kernel⟩
abbrev s_Times_init : Stmt := inClass (topS 31) 0
abbrev N_Times_init : List Str := ["self", "start", "end", "classes", "rows", "one", "modulus", "remainder", "at", "other"]
abbrev p_Times_init : List Str := ["self", "start", "end", "classes"]
theorem sc_Times_init : FnScope N_Times_init p_Times_init (defScope s_Times_init) := ⟨rfl, rfl, rfl, by decide +kernel, rfl, by decide +kernel, by decide +kernel⟩
abbrev s_Times_is_within : Stmt := inClass (topS 31) 1
abbrev N_Times_is_within : List Str := ["self", "minute"]
abbrev p_Times_is_within : List Str := ["self", "minute"]
theorem sc_Times_is_within : FnScope N_Times_is_within p_Times_is_within (defScope s_Times_is_within) := ⟨rfl, rfl, rfl, by decide +kernel, rfl, by decide +kernel, by decide +kernel⟩
abbrev s_Times_next_from : Stmt := inClass (topS 31) 3
abbrev N_Times_next_from : List Str := ["self", "minute", "first", "found", "remainder", "modulus"]
abbrev p_Times_next_from : List Str := ["self", "minute"]
theorem sc_Times_next_from : FnScope N_Times_next_from p_Times_next_from (defScope s_Times_next_from) := ⟨rfl, rfl, rfl, by decide +kernel, rfl, by decide +kernel, by decide +kernel⟩
abbrev s_part_classes : Stmt := topS 33
abbrev N_part_classes : List Str := ["table", "one", "other", "found", "place", "size", "first", "second"]
abbrev p_part_classes : List Str := ["table", "one", "other"]
theorem sc_part_classes : FnScope N_part_classes p_part_classes (defScope s_part_classes) := ⟨rfl, rfl, rfl, by decide +kernel, rfl, by decide +kernel, by decide +kernel⟩
abbrev s_at_point : Stmt := topS 34
abbrev N_at_point : List Str := ["table", "ball", "point", "rows", "place", "size", "first"]
abbrev p_at_point : List Str := ["table", "ball", "point"]
theorem sc_at_point : FnScope N_at_point p_at_point (defScope s_at_point) := ⟨rfl, rfl, rfl, by decide +kernel, rfl, by decide +kernel, by decide +kernel⟩
abbrev s_meetings : Stmt := topS 35
abbrev N_meetings : List Str := ["table", "one", "other", "first", "second"]
abbrev p_meetings : List Str := ["table", "one", "other"]
theorem sc_meetings : FnScope N_meetings p_meetings (defScope s_meetings) := ⟨rfl, rfl, rfl, by decide +kernel, rfl, by decide +kernel, by decide +kernel⟩
abbrev s_fall_of : Stmt := topS 37
abbrev N_fall_of : List Str := ["table", "ball", "found", "pocket", "minute"]
abbrev p_fall_of : List Str := ["table", "ball"]
theorem sc_fall_of : FnScope N_fall_of p_fall_of (defScope s_fall_of) := ⟨rfl, rfl, rfl, by decide +kernel, rfl, by decide +kernel, by decide +kernel⟩
abbrev s_starts_from : Stmt := topS 40
abbrev N_starts_from : List Str := ["table", "point", "minute", "dx", "dy"]
abbrev p_starts_from : List Str := ["table", "point", "minute"]
theorem sc_starts_from : FnScope N_starts_from p_starts_from (defScope s_starts_from) := ⟨rfl, rfl, rfl, by decide +kernel, rfl, by decide +kernel, by decide +kernel⟩
abbrev s_pocket_aims : Stmt := topS 41
abbrev N_pocket_aims : List Str := ["table", "point", "minute", "pocket", "balls", "found", "ball", "fall"]
abbrev p_pocket_aims : List Str := ["table", "point", "minute", "pocket"]
theorem sc_pocket_aims : FnScope N_pocket_aims p_pocket_aims (defScope s_pocket_aims) := ⟨rfl, rfl, rfl, by decide +kernel, rfl, by decide +kernel, by decide +kernel⟩
abbrev s_meeting_aims : Stmt := topS 42
abbrev N_meeting_aims : List Str := ["table", "point", "minute", "ball", "balls", "found", "aim", "first"]
abbrev p_meeting_aims : List Str := ["table", "point", "minute", "ball"]
theorem sc_meeting_aims : FnScope N_meeting_aims p_meeting_aims (defScope s_meeting_aims) := ⟨rfl, rfl, rfl, by decide +kernel, rfl, by decide +kernel, by decide +kernel⟩
abbrev s_in_order : Stmt := topS 43
abbrev N_in_order : List Str := ["table", "ball", "points", "point", "minutes", "following", "minute"]
abbrev p_in_order : List Str := ["table", "ball", "points"]
theorem sc_in_order : FnScope N_in_order p_in_order (defScope s_in_order) := ⟨rfl, rfl, rfl, by decide +kernel, rfl, by decide +kernel, by decide +kernel⟩
abbrev s_order_aims : Stmt := topS 44
abbrev N_order_aims : List Str := ["table", "point", "minute", "points", "balls", "other", "found", "ball", "minutes"]
abbrev p_order_aims : List Str := ["table", "point", "minute", "points"]
theorem sc_order_aims : FnScope N_order_aims p_order_aims (defScope s_order_aims) := ⟨rfl, rfl, rfl, by decide +kernel, rfl, by decide +kernel, by decide +kernel⟩
abbrev s__law_row : Stmt := topS 46
abbrev N__law_row : List Str := ["_law_cell", "_law_many", "_law_row_here", "_law_rest", "_law_mixed", "_law_k"]
abbrev p__law_row : List Str := ["_law_cell", "_law_many"]
theorem sc__law_row : FnScope N__law_row p__law_row (defScope s__law_row) := ⟨rfl, rfl, rfl, by decide +kernel, rfl, by decide +kernel, by decide +kernel⟩
abbrev s__law_numbers : Stmt := topS 47
abbrev N__law_numbers : List Str := ["_law_script", "_law_many", "_law_cells", "_law_each", "_law_numbers_here", "_law_cell", "_law_number"]
abbrev p__law_numbers : List Str := ["_law_script", "_law_many"]
theorem sc__law_numbers : FnScope N__law_numbers p__law_numbers (defScope s__law_numbers) := ⟨rfl, rfl, rfl, by decide +kernel, rfl, by decide +kernel, by decide +kernel⟩
abbrev s__law_table : Stmt := topS 48
abbrev N__law_table : List Str := ["_law_numbers_here", "_law_at", "_law_width", "_law_height", "_law_pockets", "_law_k", "_law_pocket"]
abbrev p__law_table : List Str := ["_law_numbers_here", "_law_at"]
theorem sc__law_table : FnScope N__law_table p__law_table (defScope s__law_table) := ⟨rfl, rfl, rfl, by decide +kernel, rfl, by decide +kernel, by decide +kernel⟩
abbrev s__law_ball : Stmt := topS 49
abbrev N__law_ball : List Str := ["_law_numbers_here", "_law_at", "_law_name", "_law_width", "_law_height", "_law_ways", "_law_way", "_law_x", "_law_y"]
abbrev p__law_ball : List Str := ["_law_numbers_here", "_law_at", "_law_name", "_law_width", "_law_height"]
theorem sc__law_ball : FnScope N__law_ball p__law_ball (defScope s__law_ball) := ⟨rfl, rfl, rfl, by decide +kernel, rfl, by decide +kernel, by decide +kernel⟩
abbrev s__law_walk : Stmt := topS 50
abbrev N__law_walk : List Str := ["_law_width", "_law_height", "_law_ball_here", "_law_many", "_law_name", "_law_x", "_law_y", "_law_dx", "_law_dy", "_law_minute", "_law_rows", "_law_turn"]
abbrev p__law_walk : List Str := ["_law_width", "_law_height", "_law_ball_here", "_law_many"]
theorem sc__law_walk : FnScope N__law_walk p__law_walk (defScope s__law_walk) := ⟨rfl, rfl, rfl, by decide +kernel, rfl, by decide +kernel, by decide +kernel⟩
abbrev s__law_fall : Stmt := topS 51
abbrev N__law_fall : List Str := ["_law_table_here", "_law_ball_here", "_law_rows", "_law_k"]
abbrev p__law_fall : List Str := ["_law_table_here", "_law_ball_here"]
theorem sc__law_fall : FnScope N__law_fall p__law_fall (defScope s__law_fall) := ⟨rfl, rfl, rfl, by decide +kernel, rfl, by decide +kernel, by decide +kernel⟩
abbrev s__law_great : Stmt := topS 52
abbrev N__law_great : List Str := ["_law_numbers_here", "_law_at", "_law_value", "_law_k"]
abbrev p__law_great : List Str := ["_law_numbers_here", "_law_at"]
theorem sc__law_great : FnScope N__law_great p__law_great (defScope s__law_great) := ⟨rfl, rfl, rfl, by decide +kernel, rfl, by decide +kernel, by decide +kernel⟩
abbrev s__law_minutes : Stmt := topS 53
abbrev N__law_minutes : List Str := ["_law_table_here", "_law_ball_here", "_law_point_here", "_law_many", "_law_rows", "_law_k"]
abbrev p__law_minutes : List Str := ["_law_table_here", "_law_ball_here", "_law_point_here", "_law_many"]
theorem sc__law_minutes : FnScope N__law_minutes p__law_minutes (defScope s__law_minutes) := ⟨rfl, rfl, rfl, by decide +kernel, rfl, by decide +kernel, by decide +kernel⟩
abbrev s__law_point : Stmt := topS 54
abbrev N__law_point : List Str := ["_law_numbers_here", "_law_at", "_law_width", "_law_height"]
abbrev p__law_point : List Str := ["_law_numbers_here", "_law_at", "_law_width", "_law_height"]
theorem sc__law_point : FnScope N__law_point p__law_point (defScope s__law_point) := ⟨rfl, rfl, rfl, by decide +kernel, rfl, by decide +kernel, by decide +kernel⟩
abbrev s__law_directions : Stmt := topS 55
abbrev N__law_directions : List Str := []
abbrev p__law_directions : List Str := []
theorem sc__law_directions : FnScope N__law_directions p__law_directions (defScope s__law_directions) := ⟨rfl, rfl, rfl, by decide +kernel, rfl, by decide +kernel, by decide +kernel⟩
abbrev s__law_times : Stmt := topS 56
abbrev N__law_times : List Str := ["_law_factor", "_law_point_here"]
abbrev p__law_times : List Str := ["_law_factor", "_law_point_here"]
theorem sc__law_times : FnScope N__law_times p__law_times (defScope s__law_times) := ⟨rfl, rfl, rfl, by decide +kernel, rfl, by decide +kernel, by decide +kernel⟩
abbrev s__law_in_order : Stmt := topS 57
abbrev N__law_in_order : List Str := ["_law_width", "_law_height", "_law_ball_here", "_law_points", "_law_minutes_here", "_law_following", "_law_rows", "_law_row_here", "_law_point_here", "_law_places", "_law_k"]
abbrev p__law_in_order : List Str := ["_law_width", "_law_height", "_law_ball_here", "_law_points"]
theorem sc__law_in_order : FnScope N__law_in_order p__law_in_order (defScope s__law_in_order) := ⟨rfl, rfl, rfl, by decide +kernel, rfl, by decide +kernel, by decide +kernel⟩
abbrev s__law_due : Stmt := topS 58
abbrev N__law_due : List Str := ["_law_table_here", "_law_point_here", "_law_minute", "_law_pocket", "_law_points", "_law_falls", "_law_orders", "_law_dx", "_law_dy", "_law_ball_here", "_law_fall_here", "_law_minutes_here"]
abbrev p__law_due : List Str := ["_law_table_here", "_law_point_here", "_law_minute", "_law_pocket", "_law_points"]
theorem sc__law_due : FnScope N__law_due p__law_due (defScope s__law_due) := ⟨rfl, rfl, rfl, by decide +kernel, rfl, by decide +kernel, by decide +kernel⟩
abbrev s__law_first_meeting : Stmt := topS 59
abbrev N__law_first_meeting : List Str := ["_law_width", "_law_height", "_law_one", "_law_other", "_law_start", "_law_many", "_law_rows", "_law_row_here", "_law_others", "_law_minute"]
abbrev p__law_first_meeting : List Str := ["_law_width", "_law_height", "_law_one", "_law_other"]
theorem sc__law_first_meeting : FnScope N__law_first_meeting p__law_first_meeting (defScope s__law_first_meeting) := ⟨rfl, rfl, rfl, by decide +kernel, rfl, by decide +kernel, by decide +kernel⟩
abbrev s__law_met : Stmt := topS 60
abbrev N__law_met : List Str := ["_law_width", "_law_height", "_law_point_here", "_law_minute", "_law_ball_here", "_law_found", "_law_dx", "_law_dy", "_law_first"]
abbrev p__law_met : List Str := ["_law_width", "_law_height", "_law_point_here", "_law_minute", "_law_ball_here"]
theorem sc__law_met : FnScope N__law_met p__law_met (defScope s__law_met) := ⟨rfl, rfl, rfl, by decide +kernel, rfl, by decide +kernel, by decide +kernel⟩
abbrev s_law : Stmt := topS 61
abbrev N_law : List Str := ["_law_script", "_law_numbers_here", "_law_width", "_law_height", "_law_pockets", "_law_point_here", "_law_minute", "_law_pocket", "_law_ball_here", "_law_steps", "_law_points", "_law_k", "_law_factor", "_law_great_here", "_law_one", "_law_far", "_law_due_here", "_law_told", "_law_row_here", "_law_odd", "_law_wide", "_law_place", "_law_met_here", "_law_other", "_law_start", "_law_minutes_here"]
abbrev p_law : List Str := ["_law_script"]
theorem sc_law : FnScope N_law p_law (defScope s_law) := ⟨rfl, rfl, rfl, by decide +kernel, rfl, by decide +kernel, by decide +kernel⟩
/-- what the top has left -/
structure TX (K : PySem.W.Frag) (mg : Str → Option Value) where
  f_require : Addr
  d_require : FuncData
  F_require : FunX K "require" "require" s_require f_require d_require
  b_require : Binds K d_require p_require []
  g_require : mg "require" = some (.ref f_require)
  f_Table_init : Addr
  d_Table_init : FuncData
  F_Table_init : FunX K "__init__" "Table.__init__" s_Table_init f_Table_init d_Table_init
  b_Table_init : Binds K d_Table_init p_Table_init []
  f_Table_is_point : Addr
  d_Table_is_point : FuncData
  F_Table_is_point : FunX K "is_point" "Table.is_point" s_Table_is_point f_Table_is_point d_Table_is_point
  b_Table_is_point : Binds K d_Table_is_point p_Table_is_point []
  f_Table_check_point : Addr
  d_Table_check_point : FuncData
  F_Table_check_point : FunX K "check_point" "Table.check_point" s_Table_check_point f_Table_check_point d_Table_check_point
  b_Table_check_point : Binds K d_Table_check_point p_Table_check_point []
  f_Table_is_pocket : Addr
  d_Table_is_pocket : FuncData
  F_Table_is_pocket : FunX K "is_pocket" "Table.is_pocket" s_Table_is_pocket f_Table_is_pocket d_Table_is_pocket
  b_Table_is_pocket : Binds K d_Table_is_pocket p_Table_is_pocket []
  f_is_name : Addr
  d_is_name : FuncData
  F_is_name : FunX K "is_name" "is_name" s_is_name f_is_name d_is_name
  b_is_name : Binds K d_is_name p_is_name []
  g_is_name : mg "is_name" = some (.ref f_is_name)
  f_is_ball : Addr
  d_is_ball : FuncData
  F_is_ball : FunX K "is_ball" "is_ball" s_is_ball f_is_ball d_is_ball
  b_is_ball : Binds K d_is_ball p_is_ball []
  g_is_ball : mg "is_ball" = some (.ref f_is_ball)
  f_check_ball : Addr
  d_check_ball : FuncData
  F_check_ball : FunX K "check_ball" "check_ball" s_check_ball f_check_ball d_check_ball
  b_check_ball : Binds K d_check_ball p_check_ball []
  g_check_ball : mg "check_ball" = some (.ref f_check_ball)
  f_inverse : Addr
  d_inverse : FuncData
  F_inverse : FunX K "inverse" "inverse" s_inverse f_inverse d_inverse
  b_inverse : Binds K d_inverse p_inverse []
  g_inverse : mg "inverse" = some (.ref f_inverse)
  f_chinese : Addr
  d_chinese : FuncData
  F_chinese : FunX K "chinese" "chinese" s_chinese f_chinese d_chinese
  b_chinese : Binds K d_chinese p_chinese []
  g_chinese : mg "chinese" = some (.ref f_chinese)
  f_solved : Addr
  d_solved : FuncData
  F_solved : FunX K "solved" "solved" s_solved f_solved d_solved
  b_solved : Binds K d_solved p_solved []
  g_solved : mg "solved" = some (.ref f_solved)
  f_united : Addr
  d_united : FuncData
  F_united : FunX K "united" "united" s_united f_united d_united
  b_united : Binds K d_united p_united []
  g_united : mg "united" = some (.ref f_united)
  f_point_classes : Addr
  d_point_classes : FuncData
  F_point_classes : FunX K "point_classes" "point_classes" s_point_classes f_point_classes d_point_classes
  b_point_classes : Binds K d_point_classes p_point_classes []
  g_point_classes : mg "point_classes" = some (.ref f_point_classes)
  f_meeting_classes : Addr
  d_meeting_classes : FuncData
  F_meeting_classes : FunX K "meeting_classes" "meeting_classes" s_meeting_classes f_meeting_classes d_meeting_classes
  b_meeting_classes : Binds K d_meeting_classes p_meeting_classes []
  g_meeting_classes : mg "meeting_classes" = some (.ref f_meeting_classes)
  f_crossed : Addr
  d_crossed : FuncData
  F_crossed : FunX K "crossed" "crossed" s_crossed f_crossed d_crossed
  b_crossed : Binds K d_crossed p_crossed []
  g_crossed : mg "crossed" = some (.ref f_crossed)
  f_is_class : Addr
  d_is_class : FuncData
  F_is_class : FunX K "is_class" "is_class" s_is_class f_is_class d_is_class
  b_is_class : Binds K d_is_class p_is_class []
  g_is_class : mg "is_class" = some (.ref f_is_class)
  f_are_apart : Addr
  d_are_apart : FuncData
  F_are_apart : FunX K "are_apart" "are_apart" s_are_apart f_are_apart d_are_apart
  b_are_apart : Binds K d_are_apart p_are_apart []
  g_are_apart : mg "are_apart" = some (.ref f_are_apart)
  f_Times_init : Addr
  d_Times_init : FuncData
  F_Times_init : FunX K "__init__" "Times.__init__" s_Times_init f_Times_init d_Times_init
  b_Times_init : Binds K d_Times_init p_Times_init []
  f_Times_is_within : Addr
  d_Times_is_within : FuncData
  F_Times_is_within : FunX K "is_within" "Times.is_within" s_Times_is_within f_Times_is_within d_Times_is_within
  b_Times_is_within : Binds K d_Times_is_within p_Times_is_within []
  f_Times_next_from : Addr
  d_Times_next_from : FuncData
  F_Times_next_from : FunX K "next_from" "Times.next_from" s_Times_next_from f_Times_next_from d_Times_next_from
  b_Times_next_from : Binds K d_Times_next_from p_Times_next_from []
  f_part_classes : Addr
  d_part_classes : FuncData
  F_part_classes : FunX K "part_classes" "part_classes" s_part_classes f_part_classes d_part_classes
  b_part_classes : Binds K d_part_classes p_part_classes []
  g_part_classes : mg "part_classes" = some (.ref f_part_classes)
  f_at_point : Addr
  d_at_point : FuncData
  F_at_point : FunX K "at_point" "at_point" s_at_point f_at_point d_at_point
  b_at_point : Binds K d_at_point p_at_point []
  g_at_point : mg "at_point" = some (.ref f_at_point)
  f_meetings : Addr
  d_meetings : FuncData
  F_meetings : FunX K "meetings" "meetings" s_meetings f_meetings d_meetings
  b_meetings : Binds K d_meetings p_meetings []
  g_meetings : mg "meetings" = some (.ref f_meetings)
  f_fall_of : Addr
  d_fall_of : FuncData
  F_fall_of : FunX K "fall_of" "fall_of" s_fall_of f_fall_of d_fall_of
  b_fall_of : Binds K d_fall_of p_fall_of []
  g_fall_of : mg "fall_of" = some (.ref f_fall_of)
  f_starts_from : Addr
  d_starts_from : FuncData
  F_starts_from : FunX K "starts_from" "starts_from" s_starts_from f_starts_from d_starts_from
  b_starts_from : Binds K d_starts_from p_starts_from []
  g_starts_from : mg "starts_from" = some (.ref f_starts_from)
  f_pocket_aims : Addr
  d_pocket_aims : FuncData
  F_pocket_aims : FunX K "pocket_aims" "pocket_aims" s_pocket_aims f_pocket_aims d_pocket_aims
  b_pocket_aims : Binds K d_pocket_aims p_pocket_aims []
  g_pocket_aims : mg "pocket_aims" = some (.ref f_pocket_aims)
  f_meeting_aims : Addr
  d_meeting_aims : FuncData
  F_meeting_aims : FunX K "meeting_aims" "meeting_aims" s_meeting_aims f_meeting_aims d_meeting_aims
  b_meeting_aims : Binds K d_meeting_aims p_meeting_aims []
  g_meeting_aims : mg "meeting_aims" = some (.ref f_meeting_aims)
  f_in_order : Addr
  d_in_order : FuncData
  F_in_order : FunX K "in_order" "in_order" s_in_order f_in_order d_in_order
  b_in_order : Binds K d_in_order p_in_order []
  g_in_order : mg "in_order" = some (.ref f_in_order)
  f_order_aims : Addr
  d_order_aims : FuncData
  F_order_aims : FunX K "order_aims" "order_aims" s_order_aims f_order_aims d_order_aims
  b_order_aims : Binds K d_order_aims p_order_aims []
  g_order_aims : mg "order_aims" = some (.ref f_order_aims)
  f__law_row : Addr
  d__law_row : FuncData
  F__law_row : FunX K "_law_row" "_law_row" s__law_row f__law_row d__law_row
  b__law_row : Binds K d__law_row p__law_row []
  g__law_row : mg "_law_row" = some (.ref f__law_row)
  f__law_numbers : Addr
  d__law_numbers : FuncData
  F__law_numbers : FunX K "_law_numbers" "_law_numbers" s__law_numbers f__law_numbers d__law_numbers
  b__law_numbers : Binds K d__law_numbers p__law_numbers []
  g__law_numbers : mg "_law_numbers" = some (.ref f__law_numbers)
  f__law_table : Addr
  d__law_table : FuncData
  F__law_table : FunX K "_law_table" "_law_table" s__law_table f__law_table d__law_table
  b__law_table : Binds K d__law_table p__law_table []
  g__law_table : mg "_law_table" = some (.ref f__law_table)
  f__law_ball : Addr
  d__law_ball : FuncData
  F__law_ball : FunX K "_law_ball" "_law_ball" s__law_ball f__law_ball d__law_ball
  b__law_ball : Binds K d__law_ball p__law_ball []
  g__law_ball : mg "_law_ball" = some (.ref f__law_ball)
  f__law_walk : Addr
  d__law_walk : FuncData
  F__law_walk : FunX K "_law_walk" "_law_walk" s__law_walk f__law_walk d__law_walk
  b__law_walk : Binds K d__law_walk p__law_walk []
  g__law_walk : mg "_law_walk" = some (.ref f__law_walk)
  f__law_fall : Addr
  d__law_fall : FuncData
  F__law_fall : FunX K "_law_fall" "_law_fall" s__law_fall f__law_fall d__law_fall
  b__law_fall : Binds K d__law_fall p__law_fall []
  g__law_fall : mg "_law_fall" = some (.ref f__law_fall)
  f__law_great : Addr
  d__law_great : FuncData
  F__law_great : FunX K "_law_great" "_law_great" s__law_great f__law_great d__law_great
  b__law_great : Binds K d__law_great p__law_great []
  g__law_great : mg "_law_great" = some (.ref f__law_great)
  f__law_minutes : Addr
  d__law_minutes : FuncData
  F__law_minutes : FunX K "_law_minutes" "_law_minutes" s__law_minutes f__law_minutes d__law_minutes
  b__law_minutes : Binds K d__law_minutes p__law_minutes []
  g__law_minutes : mg "_law_minutes" = some (.ref f__law_minutes)
  f__law_point : Addr
  d__law_point : FuncData
  F__law_point : FunX K "_law_point" "_law_point" s__law_point f__law_point d__law_point
  b__law_point : Binds K d__law_point p__law_point []
  g__law_point : mg "_law_point" = some (.ref f__law_point)
  f__law_directions : Addr
  d__law_directions : FuncData
  F__law_directions : FunX K "_law_directions" "_law_directions" s__law_directions f__law_directions d__law_directions
  b__law_directions : Binds K d__law_directions p__law_directions []
  g__law_directions : mg "_law_directions" = some (.ref f__law_directions)
  f__law_times : Addr
  d__law_times : FuncData
  F__law_times : FunX K "_law_times" "_law_times" s__law_times f__law_times d__law_times
  b__law_times : Binds K d__law_times p__law_times []
  g__law_times : mg "_law_times" = some (.ref f__law_times)
  f__law_in_order : Addr
  d__law_in_order : FuncData
  F__law_in_order : FunX K "_law_in_order" "_law_in_order" s__law_in_order f__law_in_order d__law_in_order
  b__law_in_order : Binds K d__law_in_order p__law_in_order []
  g__law_in_order : mg "_law_in_order" = some (.ref f__law_in_order)
  f__law_due : Addr
  d__law_due : FuncData
  F__law_due : FunX K "_law_due" "_law_due" s__law_due f__law_due d__law_due
  b__law_due : Binds K d__law_due p__law_due []
  g__law_due : mg "_law_due" = some (.ref f__law_due)
  f__law_first_meeting : Addr
  d__law_first_meeting : FuncData
  F__law_first_meeting : FunX K "_law_first_meeting" "_law_first_meeting" s__law_first_meeting f__law_first_meeting d__law_first_meeting
  b__law_first_meeting : Binds K d__law_first_meeting p__law_first_meeting []
  g__law_first_meeting : mg "_law_first_meeting" = some (.ref f__law_first_meeting)
  f__law_met : Addr
  d__law_met : FuncData
  F__law_met : FunX K "_law_met" "_law_met" s__law_met f__law_met d__law_met
  b__law_met : Binds K d__law_met p__law_met []
  g__law_met : mg "_law_met" = some (.ref f__law_met)
  f_law : Addr
  d_law : FuncData
  F_law : FunX K "law" "law" s_law f_law d_law
  b_law : Binds K d_law p_law []
  g_law : mg "law" = some (.ref f_law)
  C_Table : Addr
  g_Table : mg "Table" = some (.ref C_Table)
  c_Table : Cls K C_Table
  mk_Table : Mk K C_Table f_Table_init
  C_Times : Addr
  g_Times : mg "Times" = some (.ref C_Times)
  c_Times : Cls K C_Times
  mk_Times : Mk K C_Times f_Times_init
  M_Table_is_point : Meth K C_Table "is_point" f_Table_is_point
  M_Table_check_point : Meth K C_Table "check_point" f_Table_check_point
  M_Table_is_pocket : Meth K C_Table "is_pocket" f_Table_is_pocket
  M_Times_is_within : Meth K C_Times "is_within" f_Times_is_within
  M_Times_next_from : Meth K C_Times "next_from" f_Times_next_from
  n_Table_width : NoAttr K C_Table "width"
  n_Table_height : NoAttr K C_Table "height"
  n_Table_pockets : NoAttr K C_Table "pockets"
  n_Times_start : NoAttr K C_Times "start"
  n_Times_end : NoAttr K C_Times "end"
  n_Times_classes : NoAttr K C_Times "classes"
  t_MOST : Tok
  m_MOST : mg "MOST" = some (.int 1000000000000000000000000000000 t_MOST)
  t_MOST_POCKETS : Tok
  m_MOST_POCKETS : mg "MOST_POCKETS" = some (.int 12 t_MOST_POCKETS)
  t_MOST_NAME_CHARS : Tok
  m_MOST_NAME_CHARS : mg "MOST_NAME_CHARS" = some (.int 12 t_MOST_NAME_CHARS)
  t_MOST_CLASSES : Tok
  m_MOST_CLASSES : mg "MOST_CLASSES" = some (.int 64 t_MOST_CLASSES)
  t_NAME_CHARS : Tok
  m_NAME_CHARS : mg "NAME_CHARS" = some (.str "abcdefghijklmnopqrstuvwxyz0123456789" t_NAME_CHARS)
  a_WHOLE : Addr
  v_WHOLE : V
  m_WHOLE : mg "WHOLE" = some (.ref a_WHOLE)
  r_WHOLE : ∀ H, SqL K H a_WHOLE [v_WHOLE]
  q_WHOLE : ∀ G, Rp K G v_WHOLE (datP (0, 1))
  a_DIRECTIONS : Addr
  m_DIRECTIONS : mg "DIRECTIONS" = some (.ref a_DIRECTIONS)
  r_DIRECTIONS : ∀ G, Rp K G (.ref a_DIRECTIONS) (.tuple (dirs.map datP))
  m_gcd : mg "gcd" = some (.builtin "math.gcd")
  z_len : mg "len" = none
  z_all : mg "all" = none
  z_tuple : mg "tuple" = none
  z_enumerate : mg "enumerate" = none
  z_isinstance : mg "isinstance" = none
  z_list : mg "list" = none
  z_int : mg "int" = none
  z_sorted : mg "sorted" = none
  z_min : mg "min" = none
  z_max : mg "max" = none
  z_abs : mg "abs" = none
  z_range : mg "range" = none
end CU
/-! M1: plain mathematics of classes of remainders. -/
namespace CU
abbrev Cl := Int × Int
def good (c : Cl) : Prop := 0 ≤ c.1 ∧ c.1 < c.2
def InC (c : Cl) (t : Int) : Prop := c.2 ∣ t - c.1
def Mem (cs : List Cl) (t : Int) : Prop := ∃ c ∈ cs, InC c t
theorem mod_of_dvd {m r t : Int} (h0 : 0 ≤ r) (h1 : r < m) (h : m ∣ t - r) : t % m = r := by
  obtain ⟨k, hk⟩ := h
  have e : t = r + m * k := by omega
  rw [e, Int.add_mul_emod_self_left]
  exact Int.emod_eq_of_lt h0 h1
theorem dvd_sub_mod (m t : Int) : m ∣ t - t % m := ⟨t / m, by have := Int.mul_ediv_add_emod t m; omega⟩
theorem small_dvd {m d : Int} (h : m ∣ d) (h1 : d < m) (h2 : -m < d) : d = 0 := by
  obtain ⟨k, rfl⟩ := h
  have hm : 0 < m := by omega
  have k1 : k < 1 := by
    rcases Int.lt_or_le k 1 with z | z
    · exact z
    · have := Int.mul_le_mul_of_nonneg_left z (Int.le_of_lt hm)
      omega
  have k2 : -1 < k := by
    rcases Int.lt_or_le (-1) k with z | z
    · exact z
    · have := Int.mul_le_mul_of_nonneg_left z (Int.le_of_lt hm)
      rw [Int.mul_neg, Int.mul_one] at this
      omega
  have : k = 0 := by omega
  rw [this, Int.mul_zero]
theorem inC_uniq {a b : Cl} {t : Int} (ga : good a) (gb : good b) (hm : a.2 = b.2) (ha : InC a t) (hb : InC b t) : a = b := by
  have h1 := mod_of_dvd ga.1 ga.2 ha
  have h2 := mod_of_dvd gb.1 gb.2 hb
  rw [hm] at h1
  exact Prod.ext (h1.symm.trans h2) hm
theorem inC_self (c : Cl) : InC c c.1 := ⟨0, by simp⟩
/-! ### Bezout, inverses -/
theorem bezout : ∀ a b : Nat, ∃ x y : Int, (a : Int) * x + b * y = (Nat.gcd a b : Nat) := by
  intro a b
  induction a, b using Nat.gcd.induction with
  | H0 n => exact ⟨0, 1, by simp⟩
  | H1 m n hm ih =>
    obtain ⟨x, y, h⟩ := ih
    rw [Nat.gcd_rec m n]
    refine ⟨y - (n / m : Nat) * x, x, ?_⟩
    rw [← h]
    have e : (n : Int) = m * ((n / m : Nat) : Int) + ((n % m : Nat) : Int) := by
      have := Nat.div_add_mod n m
      exact_mod_cast this.symm
    have e2 : (n : Int) * x = m * ((n / m : Nat) : Int) * x + ((n % m : Nat) : Int) * x := by
      rw [← Int.add_mul, ← e]
    rw [Int.mul_sub, e2, Int.mul_assoc]
    omega
def IsInv (a m x : Int) : Prop := 0 ≤ x ∧ x < m ∧ m ∣ a * x - 1
theorem inv_uniq {a m x y : Int} (hx : IsInv a m x) (hy : IsInv a m y) : x = y := by
  obtain ⟨x0, x1, x2⟩ := hx
  obtain ⟨y0, y1, y2⟩ := hy
  have h1 : m ∣ (x - y) := by
    have h2 : m ∣ y * (a * x - 1) - x * (a * y - 1) := Int.dvd_sub (Int.dvd_mul_of_dvd_right x2) (Int.dvd_mul_of_dvd_right y2)
    have e : y * (a * x - 1) - x * (a * y - 1) = x - y := by
      rw [Int.mul_sub, Int.mul_sub, Int.mul_one, Int.mul_one]
      have : y * (a * x) = x * (a * y) := by
        rw [Int.mul_left_comm y a x, Int.mul_comm y x, Int.mul_left_comm a x y]
      omega
    rwa [e] at h2
  have := small_dvd h1 (by omega) (by omega)
  omega
open Classical in
noncomputable def invF (a m : Int) : Int := if h : ∃ x, IsInv a m x then h.choose else 0
theorem invF_eq {a m x : Int} (h : IsInv a m x) : invF a m = x := by
  unfold invF
  have hx : ∃ x, IsInv a m x := ⟨x, h⟩
  rw [dif_pos hx]
  exact inv_uniq hx.choose_spec h
theorem inv_of_bez {a m u v : Int} (hm : 0 < m) (h : a * u + m * v = 1) : IsInv a m (u % m) := by
  refine ⟨Int.emod_nonneg _ (by omega), Int.emod_lt_of_pos _ hm, ?_⟩
  have h1 : m ∣ a * (u - u % m) := Int.dvd_mul_of_dvd_right (dvd_sub_mod m u)
  have h2 : m ∣ m * v := Int.dvd_mul_right m v
  have e : a * (u % m) - 1 = -(a * (u - u % m)) - m * v := by
    rw [Int.mul_sub]
    omega
  rw [e]
  exact Int.dvd_sub (Int.dvd_neg.mpr h1) h2
/-! ### two classes -/
def gI (a b : Int) : Int := ((Nat.gcd a.natAbs b.natAbs : Nat) : Int)
theorem gI_pos {a b : Int} (h : 0 < a) : 0 < gI a b := by
  unfold gI
  have : 0 < Nat.gcd a.natAbs b.natAbs := Nat.gcd_pos_of_pos_left _ (by omega)
  omega
theorem gI_dvd_left (a b : Int) : gI a b ∣ a := by
  unfold gI
  exact Int.ofNat_dvd_left.mpr (Nat.gcd_dvd_left _ _)
theorem gI_dvd_right (a b : Int) : gI a b ∣ b := by
  unfold gI
  exact Int.ofNat_dvd_left.mpr (Nat.gcd_dvd_right _ _)
theorem gI_bez {a b : Int} (ha : 0 < a) (hb : 0 < b) : ∃ u v : Int, a * u + b * v = gI a b := by
  obtain ⟨x, y, h⟩ := bezout a.natAbs b.natAbs
  refine ⟨x, y, ?_⟩
  have e1 : ((a.natAbs : Nat) : Int) = a := by omega
  have e2 : ((b.natAbs : Nat) : Int) = b := by omega
  rw [e1, e2] at h
  exact h
theorem div_bez {a b : Int} (ha : 0 < a) (hb : 0 < b) : ∃ u v : Int, (a / gI a b) * u + (b / gI a b) * v = 1 := by
  obtain ⟨u, v, h⟩ := gI_bez ha hb
  have hg : 0 < gI a b := gI_pos ha
  refine ⟨u, v, ?_⟩
  have e1 : gI a b * (a / gI a b) = a := Int.mul_ediv_cancel' (gI_dvd_left a b)
  have e2 : gI a b * (b / gI a b) = b := Int.mul_ediv_cancel' (gI_dvd_right a b)
  have : gI a b * ((a / gI a b) * u + (b / gI a b) * v) = gI a b * 1 := by
    rw [Int.mul_add, ← Int.mul_assoc, ← Int.mul_assoc, e1, e2, h, Int.mul_one]
  exact Int.eq_of_mul_eq_mul_left (by omega) this
noncomputable def chF (a b : Cl) : Option Cl :=
  if (b.1 - a.1) % gI a.2 b.2 ≠ 0 then none
  else some ((a.1 + a.2 * (((b.1 - a.1) / gI a.2 b.2 * invF (a.2 / gI a.2 b.2) (b.2 / gI a.2 b.2)) % (b.2 / gI a.2 b.2))) % (a.2 / gI a.2 b.2 * b.2), a.2 / gI a.2 b.2 * b.2)
theorem div_pos_of {a g : Int} (ha : 0 < a) (hg : 0 < g) (h : g ∣ a) : 0 < a / g := by
  obtain ⟨k, rfl⟩ := h
  rw [Int.mul_ediv_cancel_left _ (by omega)]
  rcases Int.lt_or_le 0 k with z | z
  · exact z
  · have := Int.mul_le_mul_of_nonneg_left z (Int.le_of_lt hg)
    rw [Int.mul_zero] at this
    omega
/-- what chinese tells -/
structure ChOk (a b : Cl) (o : Option Cl) : Prop where
  no : o = none → ∀ t, InC a t → InC b t → False
  yes : ∀ c, o = some c → good c ∧ c.2 = a.2 / gI a.2 b.2 * b.2 ∧ ∀ t, InC c t ↔ InC a t ∧ InC b t
theorem ch_ok {a b : Cl} (ga : good a) (gb : good b) : ChOk a b (chF a b) := by
  obtain ⟨r, m⟩ := a
  obtain ⟨q, n⟩ := b
  have hm : 0 < m := by have := ga.1; have := ga.2; simp only at *; omega
  have hn : 0 < n := by have := gb.1; have := gb.2; simp only at *; omega
  unfold chF
  simp only
  have hg : 0 < gI m n := gI_pos hm
  have d1 := gI_dvd_left m n
  have d2 := gI_dvd_right m n
  by_cases hd : (q - r) % gI m n = 0
  · rw [if_neg (by simp [hd])]
    refine ⟨fun h => (by cases h), fun c hc => ?_⟩
    obtain rfl := Option.some.inj hc
    simp only
    have hm' : 0 < m / gI m n := div_pos_of hm hg d1
    have hn' : 0 < n / gI m n := div_pos_of hn hg d2
    obtain ⟨u, v, hb⟩ := div_bez hm hn
    have hi : IsInv (m / gI m n) (n / gI m n) (invF (m / gI m n) (n / gI m n)) := by
      rw [invF_eq (inv_of_bez hn' hb)]
      exact inv_of_bez hn' hb
    generalize hx : invF (m / gI m n) (n / gI m n) = x at hi ⊢
    have eq1 : gI m n * ((q - r) / gI m n) = q - r := Int.mul_ediv_cancel' (Int.dvd_of_emod_eq_zero hd)
    have em : gI m n * (m / gI m n) = m := Int.mul_ediv_cancel' d1
    have en : gI m n * (n / gI m n) = n := Int.mul_ediv_cancel' d2
    generalize hG : gI m n = g at *
    generalize hM : m / g = m' at *
    generalize hN : n / g = n' at *
    generalize hK : (q - r) / g = k at *
    have hL : 0 < m' * n := Int.mul_pos hm' hn
    -- the solution s = r + m * ((k x) % n')
    generalize hS : (k * x) % n' = y at *
    have hs1 : m ∣ (r + m * y) - r := ⟨y, by omega⟩
    have hs2 : n ∣ (r + m * y) - q := by
      have h1 : n' ∣ m' * y - k := by
        have a1 : n' ∣ m' * (k * x - y) := Int.dvd_mul_of_dvd_right (by rw [← hS]; exact dvd_sub_mod n' (k * x))
        have a2 : n' ∣ k * (m' * x - 1) := Int.dvd_mul_of_dvd_right hi.2.2
        have e : m' * y - k = k * (m' * x - 1) - m' * (k * x - y) := by
          rw [Int.mul_sub, Int.mul_sub, Int.mul_one, Int.mul_left_comm k m' x]
          omega
        rw [e]
        exact Int.dvd_sub a2 a1
      obtain ⟨z, hz⟩ := h1
      refine ⟨z, ?_⟩
      have e1 : m * y = g * (m' * y) := by rw [← em, Int.mul_assoc]
      have e2 : m' * y = k + n' * z := by omega
      rw [e1, e2, Int.mul_add, eq1, ← Int.mul_assoc, en]
      omega
    have lcm_m : m ∣ m' * n := ⟨n', by rw [← en, ← em, Int.mul_left_comm m' g n', Int.mul_assoc]⟩
    have lcm_n : n ∣ m' * n := ⟨m', Int.mul_comm _ _⟩
    have hr : m' * n ∣ (r + m * y) - (r + m * y) % (m' * n) := dvd_sub_mod _ _
    refine ⟨⟨Int.emod_nonneg _ (by omega), Int.emod_lt_of_pos _ hL⟩, trivial, fun t => ⟨fun h => ⟨?_, ?_⟩, fun h => ?_⟩⟩
    · show m ∣ t - r
      have h' : m' * n ∣ t - (r + m * y) % (m' * n) := h
      have := Int.dvd_add (Int.dvd_trans lcm_m (Int.dvd_sub h' hr)) hs1
      have e : t - (r + m * y) % (m' * n) - ((r + m * y) - (r + m * y) % (m' * n)) + ((r + m * y) - r) = t - r := by omega
      rwa [e] at this
    · show n ∣ t - q
      have h' : m' * n ∣ t - (r + m * y) % (m' * n) := h
      have := Int.dvd_add (Int.dvd_trans lcm_n (Int.dvd_sub h' hr)) hs2
      have e : t - (r + m * y) % (m' * n) - ((r + m * y) - (r + m * y) % (m' * n)) + ((r + m * y) - q) = t - q := by omega
      rwa [e] at this
    · show m' * n ∣ t - (r + m * y) % (m' * n)
      have h1 : m ∣ t - (r + m * y) := by
        have := Int.dvd_sub (show m ∣ t - r from h.1) hs1
        have e : t - r - ((r + m * y) - r) = t - (r + m * y) := by omega
        rwa [e] at this
      have h2 : n ∣ t - (r + m * y) := by
        have := Int.dvd_sub (show n ∣ t - q from h.2) hs2
        have e : t - q - ((r + m * y) - q) = t - (r + m * y) := by omega
        rwa [e] at this
      generalize hw : t - (r + m * y) = w at h1 h2
      have h3 : m' * n ∣ w := by
        obtain ⟨a1, ha1⟩ := h1
        obtain ⟨b1, hb1⟩ := h2
        -- w = w (m' u + n' v); m' w = m' n b1, n' w = n' m a1 = m' n a1
        have e1 : n' * m = m' * n := by rw [← em, ← en, Int.mul_left_comm, Int.mul_left_comm m' g n', Int.mul_comm m' n']
        refine ⟨b1 * u + a1 * v, ?_⟩
        have e2 : w = w * (m' * u + n' * v) := by rw [hb, Int.mul_one]
        rw [Int.mul_add] at e2
        have e3 : w * (m' * u) = m' * n * (b1 * u) := by
          rw [hb1, Int.mul_assoc n b1 (m' * u), Int.mul_left_comm b1 m' u, Int.mul_left_comm n m' (b1 * u), Int.mul_assoc m' n]
        have e4 : w * (n' * v) = m' * n * (a1 * v) := by
          rw [← e1, ha1, Int.mul_assoc m a1 (n' * v), Int.mul_left_comm a1 n' v, Int.mul_left_comm m n' (a1 * v), Int.mul_assoc n' m]
        rw [Int.mul_add, ← e3, ← e4]
        exact e2
      have := Int.dvd_add h3 hr
      have e : w + ((r + m * y) - (r + m * y) % (m' * n)) = t - (r + m * y) % (m' * n) := by omega
      rwa [e] at this
  · rw [if_pos hd]
    refine ⟨fun _ t h1 h2 => hd ?_, fun c h => (by cases h)⟩
    have h1' : m ∣ t - r := h1
    have h2' : n ∣ t - q := h2
    have := Int.dvd_sub (Int.dvd_trans d1 h1') (Int.dvd_trans d2 h2')
    have e : t - r - (t - q) = q - r := by omega
    rw [e] at this
    exact Int.emod_eq_zero_of_dvd this
end CU
/-! M2: solved, united, crossed. -/
namespace CU
def swapC (p : Int × Int) : Int × Int := (p.2, p.1)
theorem swapC_swapC (p : Int × Int) : swapC (swapC p) = p := rfl
theorem swapC_inj {p q : Int × Int} (h : swapC p = swapC q) : p = q := by
  have := congrArg swapC h
  exact this
def leP (p q : Int × Int) : Bool := decide (p.1 < q.1 ∨ (p.1 = q.1 ∧ p.2 ≤ q.2))
def sortP (ks : List (Int × Int)) : List (Int × Int) := ks.mergeSort leP
theorem sortP_perm (ks : List (Int × Int)) : (sortP ks).Perm ks := List.mergeSort_perm ks leP
def putQ (ks : List (Int × Int)) (k : Int × Int) : List (Int × Int) := if k ∈ ks then ks else ks ++ [k]
def keysF (l : List Cl) : List (Int × Int) := l.foldl (fun ks c => putQ ks (swapC c)) []
theorem putQ_mem {ks : List (Int × Int)} {k x : Int × Int} : x ∈ putQ ks k ↔ x ∈ ks ∨ x = k := by
  unfold putQ
  by_cases h : k ∈ ks
  · rw [if_pos h]
    constructor
    · exact Or.inl
    · rintro (z | z)
      · exact z
      · rw [z]
        exact h
  · rw [if_neg h, List.mem_append, List.mem_singleton]
theorem putQ_nodup {ks : List (Int × Int)} {k : Int × Int} (h : ks.Nodup) : (putQ ks k).Nodup := by
  unfold putQ
  by_cases hk : k ∈ ks
  · rw [if_pos hk]
    exact h
  · rw [if_neg hk]
    refine List.nodup_append.mpr ⟨h, by simp, fun a ha b hb e => ?_⟩
    rw [List.mem_singleton.mp hb] at e
    rw [e] at ha
    exact hk ha
theorem keys_mem : ∀ (l : List Cl) (ks : List (Int × Int)) (x : Int × Int), x ∈ l.foldl (fun ks c => putQ ks (swapC c)) ks ↔ x ∈ ks ∨ ∃ c ∈ l, x = swapC c
  | [], ks, x => by simp
  | c :: l, ks, x => by
    rw [List.foldl_cons, keys_mem l, putQ_mem]
    constructor
    · rintro ((h | h) | ⟨d, hd, e⟩)
      · exact Or.inl h
      · exact Or.inr ⟨c, List.mem_cons_self, h⟩
      · exact Or.inr ⟨d, List.mem_cons_of_mem _ hd, e⟩
    · rintro (h | ⟨d, hd, e⟩)
      · exact Or.inl (Or.inl h)
      · rcases List.mem_cons.mp hd with z | z
        · rw [z] at e
          exact Or.inl (Or.inr e)
        · exact Or.inr ⟨d, z, e⟩
theorem keys_nodup : ∀ (l : List Cl) (ks : List (Int × Int)), ks.Nodup → (l.foldl (fun ks c => putQ ks (swapC c)) ks).Nodup
  | [], _, h => h
  | _ :: l, _, h => keys_nodup l _ (putQ_nodup h)
theorem keys_len : ∀ (l : List Cl) (ks : List (Int × Int)), (l.foldl (fun ks c => putQ ks (swapC c)) ks).length ≤ ks.length + l.length
  | [], ks => by simp
  | c :: l, ks => by
    rw [List.foldl_cons]
    have h1 := keys_len l (putQ ks (swapC c))
    have h2 : (putQ ks (swapC c)).length ≤ ks.length + 1 := by
      unfold putQ
      split
      · omega
      · rw [List.length_append]
        simp
    rw [List.length_cons]
    omega
theorem nodup_swap {l : List (Int × Int)} (h : l.Nodup) : (l.map swapC).Nodup := by
  unfold List.Nodup at *
  exact List.pairwise_map.mpr (h.imp fun hne e => hne (swapC_inj e))
/-- the classes in order -/
def orderF (l : List Cl) : List Cl := (sortP (l.map swapC)).map swapC
theorem orderF_perm (l : List Cl) : (orderF l).Perm l := by
  unfold orderF
  have h := (sortP_perm (l.map swapC)).map swapC
  rw [List.map_map] at h
  have e : swapC ∘ swapC = id := by
    funext p
    rfl
  rw [e, List.map_id] at h
  exact h
def unitedF (one other : List Cl) : List Cl := if (0, 1) ∈ one ∨ (0, 1) ∈ other then [(0, 1)] else (sortP (keysF (one ++ other))).map swapC
theorem united_mem {one other : List Cl} (h : ¬ ((0, 1) ∈ one ∨ (0, 1) ∈ other)) (c : Cl) : c ∈ unitedF one other ↔ c ∈ one ∨ c ∈ other := by
  unfold unitedF
  rw [if_neg h, List.mem_map]
  constructor
  · rintro ⟨k, hk, e⟩
    have h1 := ((sortP_perm _).mem_iff).mp hk
    rcases (keys_mem _ _ _).mp h1 with z | ⟨d, hd, e2⟩
    · cases z
    · rw [e2, swapC_swapC] at e
      rw [← e]
      exact List.mem_append.mp hd
  · intro hc
    exact ⟨swapC c, ((sortP_perm _).mem_iff).mpr ((keys_mem _ _ _).mpr (Or.inr ⟨c, List.mem_append.mpr hc, rfl⟩)), rfl⟩
theorem united_nodup (one other : List Cl) : (unitedF one other).Nodup := by
  unfold unitedF
  split
  · simp
  · exact nodup_swap ((sortP_perm _).nodup_iff.mpr (keys_nodup _ _ List.nodup_nil))
theorem united_len (one other : List Cl) (h : 1 ≤ one.length + other.length ∨ ¬ ((0, 1) ∈ one ∨ (0, 1) ∈ other)) : (unitedF one other).length ≤ one.length + other.length := by
  unfold unitedF
  split
  · rename_i hw
    rcases h with h | h
    · exact h
    · exact absurd hw h
  · rw [List.length_map, (sortP_perm _).length_eq]
    have := keys_len (one ++ other) []
    rw [List.length_append] at this
    unfold keysF
    simpa using this
/-! ### solved -/
def solvedF (f r m : Int) : List Cl :=
  if (if f < 0 then -f else f) = 0 then (if (if f < 0 then -r else r) % m = 0 then [(0, 1)] else [])
  else if (if f < 0 then -f else f) = 1 then [((if f < 0 then -r else r) % m, m)]
  else if (if f < 0 then -r else r) % 2 = 1 then [] else [((if f < 0 then -r else r) / 2 % (m / 2), m / 2)]
structure SolOk (cs : List Cl) (f r m : Int) : Prop where
  len : cs.length ≤ 1
  gd : ∀ c ∈ cs, good c ∧ c.2 ≤ m
  md : ∀ c ∈ cs, c = (0, 1) ∨ (f ≠ 0 ∧ (f = 1 ∨ f = -1 → c.2 = m))
  mem : ∀ t, Mem cs t ↔ m ∣ f * t - r
theorem sol1 (f r m : Int) (hm : 0 < m) (he : m % 2 = 0) (h0 : 0 ≤ f) (h2 : f ≤ 2) : SolOk (solvedF f r m) f r m := by
  unfold solvedF
  have nf : ¬ f < 0 := by omega
  simp only [if_neg nf]
  by_cases z0 : f = 0
  · rw [if_pos z0]
    subst z0
    by_cases hr : r % m = 0
    · rw [if_pos hr]
      refine ⟨by simp, fun c hc => ?_, fun c hc => ?_, fun t => ⟨fun _ => ?_, fun _ => ?_⟩⟩
      · rw [List.mem_singleton.mp hc]
        exact ⟨⟨by decide, by decide⟩, by show (1 : Int) ≤ m; omega⟩
      · rw [List.mem_singleton.mp hc]
        exact Or.inl rfl
      · rw [Int.zero_mul, Int.zero_sub]
        exact Int.dvd_neg.mpr (Int.dvd_of_emod_eq_zero hr)
      · exact ⟨(0, 1), by simp, ⟨t, by simp⟩⟩
    · rw [if_neg hr]
      refine ⟨by simp, fun c hc => (by cases hc), fun c hc => (by cases hc), fun t => ⟨fun ⟨c, hc, _⟩ => (by cases hc), fun h => ?_⟩⟩
      rw [Int.zero_mul, Int.zero_sub] at h
      exact absurd (Int.emod_eq_zero_of_dvd (Int.dvd_neg.mp h)) hr
  · rw [if_neg z0]
    by_cases z1 : f = 1
    · rw [if_pos z1]
      subst z1
      refine ⟨by simp, fun c hc => ?_, fun c hc => ?_, fun t => ⟨fun ⟨c, hc, h⟩ => ?_, fun h => ?_⟩⟩
      · rw [List.mem_singleton.mp hc]
        exact ⟨⟨Int.emod_nonneg _ (by omega), Int.emod_lt_of_pos _ hm⟩, Int.le_refl _⟩
      · rw [List.mem_singleton.mp hc]
        exact Or.inr ⟨by decide, fun _ => rfl⟩
      · rw [List.mem_singleton.mp hc] at h
        have h' : m ∣ t - r % m := h
        have := Int.dvd_sub h' (dvd_sub_mod m r)
        have e : t - r % m - (r - r % m) = 1 * t - r := by omega
        rwa [e] at this
      · refine ⟨_, List.mem_singleton.mpr rfl, ?_⟩
        show m ∣ t - r % m
        have := Int.dvd_add h (dvd_sub_mod m r)
        have e : 1 * t - r + (r - r % m) = t - r % m := by omega
        rwa [e] at this
    · rw [if_neg z1]
      have f2 : f = 2 := by omega
      subst f2
      have m2 : m = 2 * (m / 2) := by omega
      have hm2 : 0 < m / 2 := by omega
      by_cases hr : r % 2 = 1
      · rw [if_pos hr]
        refine ⟨by simp, fun c hc => (by cases hc), fun c hc => (by cases hc), fun t => ⟨fun ⟨c, hc, _⟩ => (by cases hc), fun h => ?_⟩⟩
        exfalso
        obtain ⟨k, hk⟩ := Int.dvd_trans ⟨m / 2, m2⟩ h
        omega
      · rw [if_neg hr]
        refine ⟨by simp, fun c hc => ?_, fun c hc => ?_, fun t => ⟨fun ⟨c, hc, h⟩ => ?_, fun h => ?_⟩⟩
        · rw [List.mem_singleton.mp hc]
          exact ⟨⟨Int.emod_nonneg _ (by omega), Int.emod_lt_of_pos _ hm2⟩, by show m / 2 ≤ m; omega⟩
        · rw [List.mem_singleton.mp hc]
          exact Or.inr ⟨by decide, fun z => by omega⟩
        · rw [List.mem_singleton.mp hc] at h
          have h' : m / 2 ∣ t - r / 2 % (m / 2) := h
          obtain ⟨k, hk⟩ := Int.dvd_sub h' (dvd_sub_mod (m / 2) (r / 2))
          refine ⟨k, ?_⟩
          have e : t - r / 2 % (m / 2) - (r / 2 - r / 2 % (m / 2)) = t - r / 2 := by omega
          rw [e] at hk
          rw [m2, Int.mul_assoc, ← hk]
          omega
        · refine ⟨_, List.mem_singleton.mpr rfl, ?_⟩
          show m / 2 ∣ t - r / 2 % (m / 2)
          obtain ⟨k, hk⟩ := h
          rw [m2, Int.mul_assoc] at hk
          have h1 : m / 2 ∣ t - r / 2 := ⟨k, by omega⟩
          have := Int.dvd_add h1 (dvd_sub_mod (m / 2) (r / 2))
          have e : t - r / 2 + (r / 2 - r / 2 % (m / 2)) = t - r / 2 % (m / 2) := by omega
          rwa [e] at this
theorem sol_ok (f r m : Int) (hm : 0 < m) (he : m % 2 = 0) (h0 : -2 ≤ f) (h2 : f ≤ 2) : SolOk (solvedF f r m) f r m := by
  by_cases hf : f < 0
  · have h := sol1 (-f) (-r) m hm he (by omega) (by omega)
    have e : solvedF f r m = solvedF (-f) (-r) m := by
      unfold solvedF
      have nf : ¬ -f < 0 := by omega
      simp only [if_pos hf, if_neg nf]
    rw [e]
    refine ⟨h.len, h.gd, fun c hc => ?_, fun t => ?_⟩
    · rcases h.md c hc with z | ⟨z1, z2⟩
      · exact Or.inl z
      · exact Or.inr ⟨by omega, fun z => z2 (by omega)⟩
    · rw [h.mem t]
      have e2 : -f * t - -r = -(f * t - r) := by
        rw [Int.neg_mul]
        omega
      rw [e2]
      exact Int.dvd_neg
  · exact sol1 f r m hm he (by omega) h2
/-! ### where two parts are at one place -/
def Mt (s u v : Int) : Prop := 2 * s ∣ u - v ∨ 2 * s ∣ u + v
structure ClsOk (n : Nat) (cs : List Cl) (Pr : Int → Prop) : Prop where
  len : cs.length ≤ n
  gd : ∀ c ∈ cs, good c
  eqm : ∀ a ∈ cs, ∀ b ∈ cs, a.2 = b.2
  nd : cs.Nodup
  mem : ∀ t, Mem cs t ↔ Pr t
theorem ClsOk.perm {n : Nat} {cs ds : List Cl} {Pr : Int → Prop} (h : ClsOk n cs Pr) (p : ds.Perm cs) : ClsOk n ds Pr :=
  ⟨by rw [p.length_eq]; exact h.len, fun c hc => h.gd c (p.mem_iff.mp hc), fun a ha b hb => h.eqm a (p.mem_iff.mp ha) b (p.mem_iff.mp hb), p.nodup_iff.mpr h.nd,
    fun t => by
      rw [← h.mem t]
      exact ⟨fun ⟨c, hc, z⟩ => ⟨c, p.mem_iff.mp hc, z⟩, fun ⟨c, hc, z⟩ => ⟨c, p.mem_iff.mpr hc, z⟩⟩⟩
theorem ClsOk.imp {n : Nat} {cs : List Cl} {Pr Qr : Int → Prop} (h : ClsOk n cs Pr) (e : ∀ t, Pr t ↔ Qr t) : ClsOk n cs Qr := ⟨h.len, h.gd, h.eqm, h.nd, fun t => (h.mem t).trans (e t)⟩
def meetF (s a d b e : Int) : List Cl := unitedF (solvedF (d - e) (b - a) (2 * s)) (solvedF (d + e) (-b - a) (2 * s))
def is1 (d : Int) : Prop := d = -1 ∨ d = 0 ∨ d = 1
theorem meet_ok {s a d b e : Int} (hs : 0 < s) (hd : is1 d) (he : is1 e) : ClsOk 2 (meetF s a d b e) (fun t => Mt s (a + d * t) (b + e * t)) ∧ ∀ c ∈ meetF s a d b e, c.2 ≤ 2 * s := by
  have b1 : -2 ≤ d - e ∧ d - e ≤ 2 ∧ -2 ≤ d + e ∧ d + e ≤ 2 := by
    rcases hd with z | z | z <;> rcases he with y | y | y <;> subst z <;> subst y <;> decide
  have A := sol_ok (d - e) (b - a) (2 * s) (by omega) (by omega) b1.1 b1.2.1
  have B := sol_ok (d + e) (-b - a) (2 * s) (by omega) (by omega) b1.2.2.1 b1.2.2.2
  have e1 : ∀ t, (d - e) * t - (b - a) = (a + d * t) - (b + e * t) := fun t => by rw [Int.sub_mul]; omega
  have e2 : ∀ t, (d + e) * t - (-b - a) = (a + d * t) + (b + e * t) := fun t => by rw [Int.add_mul]; omega
  have mm : ∀ t, (Mem (solvedF (d - e) (b - a) (2 * s)) t ∨ Mem (solvedF (d + e) (-b - a) (2 * s)) t) ↔ Mt s (a + d * t) (b + e * t) := fun t => by
    rw [A.mem t, B.mem t, e1, e2]
    rfl
  unfold meetF
  generalize hA : solvedF (d - e) (b - a) (2 * s) = L1 at *
  generalize hB : solvedF (d + e) (-b - a) (2 * s) = L2 at *
  by_cases hw : (0, 1) ∈ L1 ∨ (0, 1) ∈ L2
  · have eU : unitedF L1 L2 = [(0, 1)] := if_pos hw
    rw [eU]
    have all : ∀ t, InC (0, 1) t := fun t => ⟨t, by simp⟩
    refine ⟨⟨by simp, fun c hc => ?_, fun x hx y hy => ?_, by simp, fun t => ⟨fun _ => (mm t).mp ?_, fun _ => ⟨_, List.mem_singleton.mpr rfl, all t⟩⟩⟩, fun c hc => ?_⟩
    · rw [List.mem_singleton.mp hc]
      exact ⟨by decide, by decide⟩
    · rw [List.mem_singleton.mp hx, List.mem_singleton.mp hy]
    · rcases hw with z | z
      · exact Or.inl ⟨_, z, all t⟩
      · exact Or.inr ⟨_, z, all t⟩
    · rw [List.mem_singleton.mp hc]
      show (1 : Int) ≤ 2 * s
      omega
  · have mem := united_mem hw
    have no : ∀ c, (c ∈ L1 → c ≠ (0, 1)) ∧ (c ∈ L2 → c ≠ (0, 1)) := fun c => ⟨fun h z => hw (Or.inl (z ▸ h)), fun h z => hw (Or.inr (z ▸ h))⟩
    have one : ∀ (l : List Cl), l.length ≤ 1 → ∀ x ∈ l, ∀ y ∈ l, x = y := fun l hl x hx y hy => by
      match l, hl, hx, hy with
      | [z], _, hx, hy => rw [List.mem_singleton.mp hx, List.mem_singleton.mp hy]
      | [], _, hx, _ => cases hx
      | _ :: _ :: _, hl, _, _ => simp at hl
    have mix : ∀ x ∈ L1, ∀ y ∈ L2, x.2 = y.2 := fun x hx y hy => by
      rcases A.md x hx with z | ⟨z1, z2⟩
      · exact absurd z ((no x).1 hx)
      · rcases B.md y hy with y0 | ⟨y1, y2⟩
        · exact absurd y0 ((no y).2 hy)
        · have f1 : d - e = 1 ∨ d - e = -1 := by
            rcases hd with z | z | z <;> rcases he with y | y | y <;> subst z <;> subst y <;> simp_all
          have f2 : d + e = 1 ∨ d + e = -1 := by
            rcases hd with z | z | z <;> rcases he with y | y | y <;> subst z <;> subst y <;> simp_all
          rw [z2 f1, y2 f2]
    refine ⟨⟨?_, fun c hc => ?_, fun x hx y hy => ?_, united_nodup _ _, fun t => ?_⟩, fun c hc => ?_⟩
    · have := united_len L1 L2 (Or.inr hw)
      have := A.len
      have := B.len
      omega
    · rcases (mem c).mp hc with z | z
      · exact (A.gd c z).1
      · exact (B.gd c z).1
    · rcases (mem x).mp hx with p | p <;> rcases (mem y).mp hy with q | q
      · rw [one _ A.len x p y q]
      · exact mix x p y q
      · exact (mix y q x p).symm
      · rw [one _ B.len x p y q]
    · rw [← mm t]
      constructor
      · rintro ⟨c, hc, h⟩
        rcases (mem c).mp hc with z | z
        · exact Or.inl ⟨c, z, h⟩
        · exact Or.inr ⟨c, z, h⟩
      · rintro (⟨c, hc, h⟩ | ⟨c, hc, h⟩)
        · exact ⟨c, (mem c).mpr (Or.inl hc), h⟩
        · exact ⟨c, (mem c).mpr (Or.inr hc), h⟩
    · rcases (mem c).mp hc with z | z
      · exact (A.gd c z).2
      · exact (B.gd c z).2
/-! ### crossed -/
noncomputable def crossOne (a : Cl) (other : List Cl) : List (Int × Int) := other.filterMap fun b => (chF a b).map swapC
noncomputable def crossL (one other : List Cl) : List (Int × Int) := one.flatMap fun a => crossOne a other
noncomputable def crossedF (one other : List Cl) : List Cl := (sortP (crossL one other)).map swapC
theorem cross_mem {one other : List Cl} {k : Int × Int} : k ∈ crossL one other ↔ ∃ a ∈ one, ∃ b ∈ other, ∃ c, chF a b = some c ∧ k = swapC c := by
  unfold crossL crossOne
  rw [List.mem_flatMap]
  constructor
  · rintro ⟨a, ha, h⟩
    rw [List.mem_filterMap] at h
    obtain ⟨b, hb, e⟩ := h
    cases hc : chF a b with
    | none =>
      rw [hc] at e
      cases e
    | some c =>
      rw [hc] at e
      exact ⟨a, ha, b, hb, c, hc, (Option.some.inj e).symm⟩
  · rintro ⟨a, ha, b, hb, c, hc, e⟩
    refine ⟨a, ha, List.mem_filterMap.mpr ⟨b, hb, ?_⟩⟩
    rw [hc, e]
    rfl
theorem crossed_mem {one other : List Cl} {c : Cl} : c ∈ crossedF one other ↔ ∃ a ∈ one, ∃ b ∈ other, chF a b = some c := by
  unfold crossedF
  rw [List.mem_map]
  constructor
  · rintro ⟨k, hk, e⟩
    obtain ⟨a, ha, b, hb, d, hd, e2⟩ := cross_mem.mp ((sortP_perm _).mem_iff.mp hk)
    rw [e2, swapC_swapC] at e
    exact ⟨a, ha, b, hb, by rw [hd, e]⟩
  · rintro ⟨a, ha, b, hb, h⟩
    exact ⟨swapC c, (sortP_perm _).mem_iff.mpr (cross_mem.mpr ⟨a, ha, b, hb, c, h, rfl⟩), rfl⟩
theorem crossOne_len (a : Cl) (other : List Cl) : (crossOne a other).length ≤ other.length := List.length_filterMap_le _ _
theorem crossL_len : ∀ (one other : List Cl), (crossL one other).length ≤ one.length * other.length
  | [], other => by simp [crossL]
  | a :: one, other => by
    have h1 := crossL_len one other
    have h2 := crossOne_len a other
    have e : crossL (a :: one) other = crossOne a other ++ crossL one other := rfl
    rw [e, List.length_append, List.length_cons, Nat.add_mul, Nat.one_mul]
    omega
theorem cross_nodup {one other : List Cl} (g1 : ∀ c ∈ one, good c) (g2 : ∀ c ∈ other, good c) (m1 : ∀ a ∈ one, ∀ b ∈ one, a.2 = b.2) (m2 : ∀ a ∈ other, ∀ b ∈ other, a.2 = b.2) (n1 : one.Nodup) (n2 : other.Nodup) : (crossL one other).Nodup := by
  have uniq : ∀ a ∈ one, ∀ b ∈ other, ∀ c, chF a b = some c → ∀ a' ∈ one, ∀ b' ∈ other, chF a' b' = some c → a = a' ∧ b = b' := fun a ha b hb c hc a' ha' b' hb' hc' => by
    have o1 := (ch_ok (g1 a ha) (g2 b hb)).yes c hc
    have o2 := (ch_ok (g1 a' ha') (g2 b' hb')).yes c hc'
    have t1 := (o1.2.2 c.1).mp (inC_self c)
    have t2 := (o2.2.2 c.1).mp (inC_self c)
    exact ⟨inC_uniq (g1 a ha) (g1 a' ha') (m1 a ha a' ha') t1.1 t2.1, inC_uniq (g2 b hb) (g2 b' hb') (m2 b hb b' hb') t1.2 t2.2⟩
  have inner : ∀ a ∈ one, ∀ l : List Cl, (∀ b ∈ l, b ∈ other) → l.Nodup → (crossOne a l).Nodup := fun a ha l => by
    induction l with
    | nil => exact fun _ _ => List.nodup_nil
    | cons b l ih =>
      intro hl hn
      have hn' := List.nodup_cons.mp hn
      have ih' := ih (fun x hx => hl x (List.mem_cons_of_mem _ hx)) hn'.2
      unfold crossOne at *
      rw [List.filterMap_cons]
      cases hc : chF a b with
      | none => exact ih'
      | some c =>
        refine List.nodup_cons.mpr ⟨fun hm => ?_, ih'⟩
        obtain ⟨b', hb', e⟩ := List.mem_filterMap.mp hm
        cases hc' : chF a b' with
        | none =>
          rw [hc'] at e
          cases e
        | some c' =>
          rw [hc'] at e
          have e3 : c' = c := swapC_inj (Option.some.inj e)
          rw [e3] at hc'
          have := (uniq a ha b (hl b List.mem_cons_self) c hc a ha b' (hl b' (List.mem_cons_of_mem _ hb')) hc').2
          rw [this] at hn'
          exact hn'.1 hb'
  have outer : ∀ l : List Cl, (∀ a ∈ l, a ∈ one) → l.Nodup → (crossL l other).Nodup := fun l => by
    induction l with
    | nil => exact fun _ _ => List.nodup_nil
    | cons a l ih =>
      intro hl hn
      have hn' := List.nodup_cons.mp hn
      have e : crossL (a :: l) other = crossOne a other ++ crossL l other := rfl
      rw [e]
      refine List.nodup_append.mpr ⟨inner a (hl a List.mem_cons_self) other (fun _ h => h) n2, ih (fun x hx => hl x (List.mem_cons_of_mem _ hx)) hn'.2, fun k hk k' hk' ek => ?_⟩
      obtain ⟨b, hb, e1⟩ := List.mem_filterMap.mp hk
      obtain ⟨a', ha', b', hb', c', hc', e2⟩ := cross_mem.mp hk'
      cases hc : chF a b with
      | none =>
        rw [hc] at e1
        cases e1
      | some c =>
        rw [hc] at e1
        have e3 : swapC c = swapC c' := (Option.some.inj e1).trans (ek.trans e2)
        rw [← swapC_inj e3] at hc'
        have := (uniq a (hl a List.mem_cons_self) b hb c hc a' (hl a' (List.mem_cons_of_mem _ ha')) b' hb' hc').1
        rw [this] at hn'
        exact hn'.1 ha'
  exact outer one (fun _ h => h) n1
theorem crossed_ok {n m : Nat} {one other : List Cl} {P1 P2 : Int → Prop} (h1 : ClsOk n one P1) (h2 : ClsOk m other P2) : ClsOk (n * m) (crossedF one other) (fun t => P1 t ∧ P2 t) := by
  refine ⟨?_, fun c hc => ?_, fun x hx y hy => ?_, ?_, fun t => ?_⟩
  · unfold crossedF
    rw [List.length_map, (sortP_perm _).length_eq]
    exact Nat.le_trans (crossL_len one other) (Nat.mul_le_mul h1.len h2.len)
  · obtain ⟨a, ha, b, hb, h⟩ := crossed_mem.mp hc
    exact ((ch_ok (h1.gd a ha) (h2.gd b hb)).yes c h).1
  · obtain ⟨a, ha, b, hb, h⟩ := crossed_mem.mp hx
    obtain ⟨a', ha', b', hb', h'⟩ := crossed_mem.mp hy
    rw [((ch_ok (h1.gd a ha) (h2.gd b hb)).yes x h).2.1, ((ch_ok (h1.gd a' ha') (h2.gd b' hb')).yes y h').2.1, h1.eqm a ha a' ha', h2.eqm b hb b' hb']
  · unfold crossedF
    exact nodup_swap ((sortP_perm _).nodup_iff.mpr (cross_nodup h1.gd h2.gd h1.eqm h2.eqm h1.nd h2.nd))
  · rw [← h1.mem t, ← h2.mem t]
    constructor
    · rintro ⟨c, hc, z⟩
      obtain ⟨a, ha, b, hb, h⟩ := crossed_mem.mp hc
      have := (((ch_ok (h1.gd a ha) (h2.gd b hb)).yes c h).2.2 t).mp z
      exact ⟨⟨a, ha, this.1⟩, ⟨b, hb, this.2⟩⟩
    · rintro ⟨⟨a, ha, z1⟩, ⟨b, hb, z2⟩⟩
      have o := ch_ok (h1.gd a ha) (h2.gd b hb)
      cases hc : chF a b with
      | none => exact (o.no hc t z1 z2).elim
      | some c => exact ⟨c, crossed_mem.mpr ⟨a, ha, b, hb, hc⟩, ((o.yes c hc).2.2 t).mpr ⟨z1, z2⟩⟩
/-! ### the first minute of a set from a minute on -/
def IsNext (Pr : Int → Prop) (lo : Int) (o : Option Int) : Prop := (o = none ∧ ∀ t, lo ≤ t → ¬ Pr t) ∨ ∃ t, o = some t ∧ lo ≤ t ∧ Pr t ∧ ∀ u, lo ≤ u → Pr u → t ≤ u
theorem isNext_uniq {Pr : Int → Prop} {lo : Int} {o o' : Option Int} (h : IsNext Pr lo o) (h' : IsNext Pr lo o') : o = o' := by
  rcases h with ⟨rfl, h⟩ | ⟨t, rfl, h1, h2, h3⟩
  · rcases h' with ⟨rfl, _⟩ | ⟨u, rfl, g1, g2, _⟩
    · rfl
    · exact absurd g2 (h u g1)
  · rcases h' with ⟨rfl, g⟩ | ⟨u, rfl, g1, g2, g3⟩
    · exact absurd h2 (g t h1)
    · have := h3 u g1 g2
      have := g3 t h1 h2
      exact congrArg some (by omega)
theorem next_there (Pr : Int → Prop) (lo : Int) : ∃ o, IsNext Pr lo o := by
  by_cases h : ∃ t, lo ≤ t ∧ Pr t
  · obtain ⟨t, h1, h2⟩ := h
    have key : ∀ n : Nat, ∀ t, lo ≤ t → Pr t → (t - lo).toNat = n → ∃ o, IsNext Pr lo o := by
      intro n
      induction n using Nat.strongRecOn with
      | ind n ih =>
        intro t h1 h2 hn
        by_cases hs : ∃ u, lo ≤ u ∧ Pr u ∧ u < t
        · obtain ⟨u, g1, g2, g3⟩ := hs
          exact ih (u - lo).toNat (by omega) u g1 g2 rfl
        · refine ⟨some t, Or.inr ⟨t, rfl, h1, h2, fun u g1 g2 => ?_⟩⟩
          rcases Int.lt_or_le u t with z | z
          · exact absurd ⟨u, g1, g2, z⟩ hs
          · exact z
    exact key _ t h1 h2 rfl
  · exact ⟨none, Or.inl ⟨rfl, fun t h1 h2 => h ⟨t, h1, h2⟩⟩⟩
noncomputable def nxt (Pr : Int → Prop) (lo : Int) : Option Int := (next_there Pr lo).choose
theorem nxt_spec (Pr : Int → Prop) (lo : Int) : IsNext Pr lo (nxt Pr lo) := (next_there Pr lo).choose_spec
theorem nxt_eq {Pr : Int → Prop} {lo : Int} {o : Option Int} (h : IsNext Pr lo o) : nxt Pr lo = o := isNext_uniq (nxt_spec Pr lo) h
/-- the first number of a class from lo on -/
def firstOf (lo : Int) (c : Cl) : Int := lo + (c.1 - lo) % c.2
theorem first_ok {lo : Int} {c : Cl} (g : good c) : lo ≤ firstOf lo c ∧ InC c (firstOf lo c) ∧ ∀ u, lo ≤ u → InC c u → firstOf lo c ≤ u := by
  have hm : 0 < c.2 := by have := g.1; have := g.2; omega
  unfold firstOf InC
  have n0 := Int.emod_nonneg (c.1 - lo) (show c.2 ≠ 0 by omega)
  have n1 := Int.emod_lt_of_pos (c.1 - lo) hm
  refine ⟨by omega, ?_, fun u hu hc => ?_⟩
  · have := Int.dvd_neg.mpr (dvd_sub_mod c.2 (c.1 - lo))
    have e : -(c.1 - lo - (c.1 - lo) % c.2) = lo + (c.1 - lo) % c.2 - c.1 := by omega
    rwa [e] at this
  · rcases Int.lt_or_le u (lo + (c.1 - lo) % c.2) with z | z
    · have h1 := Int.dvd_add hc (dvd_sub_mod c.2 (c.1 - lo))
      have e : u - c.1 + (c.1 - lo - (c.1 - lo) % c.2) = u - (lo + (c.1 - lo) % c.2) := by omega
      rw [e] at h1
      have := small_dvd h1 (by omega) (by omega)
      omega
    · exact z
theorem next_of {n : Nat} {cs : List Cl} {Pr : Int → Prop} (h : ClsOk n cs Pr) (lo m : Int) (hm : m ∈ cs.map (firstOf lo)) (hl : ∀ y ∈ cs.map (firstOf lo), m ≤ y) : nxt Pr lo = some m := by
  refine nxt_eq (Or.inr ⟨m, rfl, ?_⟩)
  obtain ⟨c, hc, e⟩ := List.mem_map.mp hm
  obtain ⟨f1, f2, f3⟩ := first_ok (lo := lo) (h.gd c hc)
  rw [e] at f1 f2
  refine ⟨f1, (h.mem m).mp ⟨c, hc, f2⟩, fun u hu hp => ?_⟩
  obtain ⟨d, hd, hi⟩ := (h.mem u).mpr hp
  have g := (first_ok (lo := lo) (h.gd d hd)).2.2 u hu hi
  have := hl _ (List.mem_map.mpr ⟨d, hd, rfl⟩)
  omega
theorem next_no {n : Nat} {cs : List Cl} {Pr : Int → Prop} (h : ClsOk n cs Pr) (lo : Int) (he : cs = []) : nxt Pr lo = none := by
  refine nxt_eq (Or.inl ⟨rfl, fun t _ hp => ?_⟩)
  obtain ⟨c, hc, _⟩ := (h.mem t).mpr hp
  rw [he] at hc
  cases hc
end CU
/-! F1: tables. -/
namespace CU
open PySem PySem.Spec PyProof.Rows L2 DL
variable {P : Program} {w : World} {K : PySem.W.Frag} {mg : Str → Option Value} {base : Heap}
/-! ### require -/
def sp_require (K : PySem.W.Frag) : Sp := spOf (fun _ : Unit => [Dat K (.bool true)]) (fun _ => True) (fun _ => Dat K .none)
theorem ok_require (T : TX K mg) : FnOk P w K mg base CX0 1 T.f_require T.d_require p_require (sp_require K) := by
  refine fn_ok T.F_require sc_require (fun _ => rfl) fun cdv A outer s H E hr => ⟨_, (pss_one (ps_if (pt_not (pt_val (pv 0)))
(pss_one ps_never)
pss_nil)), fun y _ => ?_⟩
  exact sj_ifF (et_not (et_B (ev_var rfl))) rfl (sj_next fun _ => .non)
/-! ### Table.is_point .. -/
abbrev Pt := Int × Int
/-- the attributes of a table -/
def tabF (K : PySem.W.Frag) (w h : Int) (ps : List Pt) : List (Str × RR) := [("width", Dat K (.int w)), ("height", Dat K (.int h)), ("pockets", Dat K (.tuple (ps.map datP)))]
def TabR (K : PySem.W.Frag) (C : Addr) (w h : Int) (ps : List Pt) : RR := InsR C (tabF K w h ps)
def onT (w h : Int) (p : Pt) : Bool := (decide (0 ≤ p.1) && decide (p.1 ≤ w)) && (decide (0 ≤ p.2) && decide (p.2 ≤ h))
structure TabA where
  w : Int
  h : Int
  ps : List Pt
  p : Pt
def argsTP (K : PySem.W.Frag) (C : Addr) (y : TabA) : List RR := [TabR K C y.w y.h y.ps, Dat K (datP y.p)]
def sp_is_point (K : PySem.W.Frag) (C : Addr) : Sp := spOf (argsTP K C) (fun _ => True) (fun y => Dat K (.bool (onT y.w y.h y.p)))
theorem ok_Table_is_point (T : TX K mg) : FnOk P w K mg base CX0 1 T.f_Table_is_point T.d_Table_is_point p_Table_is_point (sp_is_point K T.C_Table) := by
  refine fn_ok T.F_Table_is_point sc_Table_is_point (fun _ => rfl) fun cdv A outer s H E hr => ⟨_, (pss_one (ps_ret (pe_and (pe_chain op_le op_le pe_int (pe_ix (kix_tup K) (pv 1) pe_int (fun _ _ => rfl)) (kpe_fld K rfl (pv 0) rfl)) (pe_one (pe_chain op_le op_le pe_int (pe_ix (kix_tup K) (pv 1) pe_int (fun _ _ => rfl)) (kpe_fld K rfl (pv 0) rfl)))))), fun y _ => ?_⟩
  have hw : EvR (tFld K (tVar 0) "width") (startD N_Table_is_point (argsTP K T.C_Table y)) (Dat K (.int y.w)) := ev_fld (ev_var rfl) T.c_Table T.n_Table_width rfl
  have hh : EvR (tFld K (tVar 0) "height") (startD N_Table_is_point (argsTP K T.C_Table y)) (Dat K (.int y.h)) := ev_fld (ev_var rfl) T.c_Table T.n_Table_height rfl
  exact sj_ret (ev_andV (ev_chain ev_int (ev_ixT (ev_var rfl) ev_int rfl) fun _ => hw) fun _ => ev_chain ev_int (ev_ixT (ev_var rfl) ev_int rfl) fun _ => hh) fun _ _ h => h
def sp_check_point (K : PySem.W.Frag) (C : Addr) : Sp := spOf (argsTP K C) (fun y => onT y.w y.h y.p = true) (fun y => Dat K .none)
theorem ok_Table_check_point (T : TX K mg) : FnOk P w K mg base CX0 2 T.f_Table_check_point T.d_Table_check_point p_Table_check_point (sp_check_point K T.C_Table) := by
  refine fn_ok T.F_Table_check_point sc_Table_check_point (fun _ => rfl) fun cdv A outer s H E hr => ⟨_, (pss_one (ps_if (pt_not (pt_val (pe_meth (pv 0) T.c_Table T.M_Table_is_point (ok_Table_is_point T) (hr.mono (by decide)) T.b_Table_is_point .nil pass0 (pa_cons (pv 1) pa_nil))))
(pss_one ps_never)
pss_nil)), fun y hy => ?_⟩
  refine sj_ifF (et_not (et_B (ev_meth y (ev_var rfl) (hasM_ins rfl) (ea_cons (ev_var rfl) ea_nil) rfl trivial))) ?_ (sj_next fun _ => .non)
  rw [hy]
  rfl
theorem shaped_datP (p : Pt) : SeqAt.shaped (datP p) = true := by
  simp [datP, SeqAt.shaped, PyData.canLay0, PyData.canLayAll0, PyData.depth, PyData.depthAll]
theorem lay_datPs : ∀ ps : List Pt, PyData.canLayAll0 (ps.map datP) = true
  | [] => by simp [PyData.canLayAll0]
  | p :: ps => by simp [PyData.canLayAll0, datP, PyData.canLay0, lay_datPs ps]
theorem eqv_datP (p q : Pt) : PyData.eqv (datP p) (datP q) = decide (p = q) := by
  obtain ⟨a, b⟩ := p
  obtain ⟨c, d⟩ := q
  simp [datP, PyData.eqv, PyData.eqvAll, Prod.ext_iff, Bool.decide_and, Bool.beq_eq_decide_eq]
theorem any_datP (p : Pt) (ps : List Pt) : ((ps.map datP).any fun z => PyData.eqv z (datP p)) = decide (p ∈ ps) := by
  rw [List.any_map]
  have e : ((fun z => PyData.eqv z (datP p)) ∘ datP) = fun q => decide (q = p) := by
    funext q
    exact eqv_datP q p
  rw [e, List.any_eq]
  simp
def sp_is_pocket (K : PySem.W.Frag) (C : Addr) : Sp := spOf (argsTP K C) (fun y => onT y.w y.h y.p = true) (fun y => Dat K (.bool (decide (y.p ∈ y.ps))))
theorem ok_Table_is_pocket (T : TX K mg) : FnOk P w K mg base CX0 3 T.f_Table_is_pocket T.d_Table_is_pocket p_Table_is_pocket (sp_is_pocket K T.C_Table) := by
  refine fn_ok T.F_Table_is_pocket sc_Table_is_pocket (fun _ => rfl) fun cdv A outer s H E hr => ⟨_, (pss_cons (ps_expr (pe_meth (pv 0) T.c_Table T.M_Table_check_point (ok_Table_check_point T) (hr.mono (by decide)) T.b_Table_check_point .nil pass0 (pa_cons (pv 1) pa_nil)))
(pss_one (ps_ret (pe_cmpR (kop_inS K rfl (room65 hr)) (pe_callTy (T := "tuple") (kc_tuple K) (by rfl) T.z_tuple (by decide +kernel) (pa_cons (pv 1) pa_nil)) (kpe_fld K rfl (pv 0) rfl) (by rfl))))), fun y hy => ?_⟩
  refine q_drop (ev_meth y (ev_var rfl) (hasM_ins rfl) (ea_cons (ev_var rfl) ea_nil) rfl hy) ?_
  exact sj_retD (ev_inST (ev_cb (ea_cons (ev_var rfl) ea_nil) kb_tupT) (ev_fld (ev_var rfl) T.c_Table T.n_Table_pockets rfl) (shaped_datP y.p) (lay_datPs y.ps)) rfl (congrArg PyData.bool (any_datP y.p y.ps))
end CU
/-! F2: a table is made. -/
namespace CU
open PySem PySem.Spec PyProof.Rows L2 DL
variable {P : Program} {w : World} {K : PySem.W.Frag} {mg : Str → Option Value} {base : Heap}
structure TabN where
  w : Int
  h : Int
  ps : List Pt
structure TabOk (y : TabN) : Prop where
  w1 : 1 ≤ y.w
  w2 : y.w ≤ 1000000000000000000000000000000
  h1 : 1 ≤ y.h
  h2 : y.h ≤ 1000000000000000000000000000000
  few : y.ps.length ≤ 12
  on : ∀ p ∈ y.ps, onT y.w y.h p = true
  nd : y.ps.Nodup
def argsT (K : PySem.W.Frag) (y : TabN) : List RR := [Dat K (.int y.w), Dat K (.int y.h), Dat K (.list (y.ps.map datP))]
def sp_Table_init (K : PySem.W.Frag) (C : Addr) : Sp := spInit C (argsT K) TabOk (fun y => tabF K y.w y.h y.ps)
theorem cut_to (ds : List PyData) (i : Nat) (h : i ≤ ds.length) : DL.cutD ds none (some (i : Int)) = ds.take i := by
  unfold DL.cutD
  rw [HT.sIx_none, HT.sIx_nat, Nat.min_eq_left h]
  rfl
theorem ok_Table_init (T : TX K mg) : FnOk P w K mg base CX0 2 T.f_Table_init T.d_Table_init p_Table_init (sp_Table_init K T.C_Table) := by
  refine fn_init T.F_Table_init sc_Table_init (fun _ => rfl) (by decide) fun cdv A outer s H E hr => ⟨_, (pss_cons (ps_expr (pe_call (ok_require T) (hr.mono (by decide)) (by rfl) T.g_require T.F_require.kp T.b_require .nil pass0 (pa_cons (pe_and (pe_chain op_le op_le pe_int (pv 1) (pe_glob (v := .int 1000000000000000000000000000000) rfl T.m_MOST ⟨_, rfl⟩)) (pe_one (pe_chain op_le op_le pe_int (pv 2) (pe_glob (v := .int 1000000000000000000000000000000) rfl T.m_MOST ⟨_, rfl⟩)))) pa_nil)))
(pss_cons (kps_fld K rfl (pv 0) (pv 1) rfl)
(pss_cons (kps_fld K rfl (pv 0) (pv 2) rfl)
(pss_cons (ps_expr (pe_call (ok_require T) (hr.mono (by decide)) (by rfl) T.g_require T.F_require.kp T.b_require .nil pass0 (pa_cons (pe_and (pe_cmpR op_le (pe_callB (id := "len") (kc_len K) (by rfl) T.z_len (by decide +kernel) (pa_cons (pv 3) pa_nil)) (pe_glob (v := .int 12) rfl T.m_MOST_POCKETS ⟨_, rfl⟩) (nomark _)) (pe_one (pe_callB (id := "all") (kc_all K rfl rfl) (by rfl) T.z_all (by decide +kernel) (pa_cons (pe_lc (own := [("point", 4)]) (by rfl) sc_Table_init.nd (kpi_list K rfl (pv 3)) (blkOk_by (N := N_Table_init) (sc := defScope s_Table_init) (by decide +kernel)) (fun _ _ _ _ _ => pg_name (i := 4) sc_Table_init.nd rfl (Or.inl rfl)) (fun _ _ _ _ _ => pts_nil) (fun _ _ _ _ _ => (pe_cmpR op_eq (pe_callB (id := "len") (kc_len K) (by rfl) T.z_len (by decide +kernel) (pa_cons (pv 4) pa_nil)) pe_int (nomark _)))) pa_nil)))) pa_nil)))
(pss_cons (kps_fld K rfl (pv 0) (pe_callTy (T := "tuple") (kc_tuple K) (by rfl) T.z_tuple (by decide +kernel) (pa_cons (pe_lc (own := [("point", 4)]) (by rfl) sc_Table_init.nd (kpi_list K rfl (pv 3)) (blkOk_by (N := N_Table_init) (sc := defScope s_Table_init) (by decide +kernel)) (fun _ _ _ _ _ => pg_name (i := 4) sc_Table_init.nd rfl (Or.inl rfl)) (fun _ _ _ _ _ => pts_nil) (fun _ _ _ _ _ => (pe_callTy (T := "tuple") (kc_tuple K) (by rfl) T.z_tuple (by decide +kernel) (pa_cons (pv 4) pa_nil)))) pa_nil)) rfl)
(pss_one (ps_for PassesOwn.never rfl (kpi_enumT K rfl (by rfl) T.z_enumerate (pa_cons (kpe_fld K rfl (pv 0) rfl) pa_nil)) (kpg_tup K rfl rfl (pgs_cons (pg_name (i := 5) sc_Table_init.nd rfl (Or.inl rfl)) (pgs_cons (pg_name (i := 4) sc_Table_init.nd rfl (Or.inl rfl)) pgs_nil)))
(pss_one (ps_expr (pe_call (ok_require T) (hr.mono (by decide)) (by rfl) T.g_require T.F_require.kp T.b_require .nil pass0 (pa_cons (pe_and (pe_meth (pv 0) T.c_Table T.M_Table_is_point (ok_Table_is_point T) (hr.mono (by decide)) T.b_Table_is_point .nil pass0 (pa_cons (pv 4) pa_nil)) (pe_one (pe_cmpR (kop_niS K rfl (room65 hr)) (pv 4) (pe_slice (ksl_tup K) (kpe_fld K rfl (pv 0) rfl) po_none (po_some (pv 5))) (by rfl)))) pa_nil))))))))))), fun y hy p => ?_⟩
  have gM : ∀ {Δ : List Slot}, EvR (tC (.int 1000000000000000000000000000000)) Δ (Dat K (.int 1000000000000000000000000000000)) := ev_int
  -- require(1 <= width <= MOST and 1 <= height <= MOST)
  have c1 := hy.w1; have c2 := hy.w2; have c3 := hy.h1; have c4 := hy.h2
  refine q_drop (ev_call () (ea_cons ((ev_andV (ev_chain ev_int (ev_var rfl) fun _ => ev_int) fun _ => ev_chain ev_int (ev_var rfl) fun _ => ev_int).cast (by simp [c1, c2, c3, c4])) ea_nil) trivial) ?_
  refine q_fld rfl (ev_var rfl) T.c_Table T.n_Table_width rfl (by simp) ?_
  refine q_fld rfl (ev_var rfl) T.c_Table T.n_Table_height rfl (by simp) ?_
  -- require(len(pockets) <= MOST_POCKETS and all(..))
  have hz : y.ps.length < sizeLine := Nat.lt_of_le_of_lt hy.few (by decide)
  have c5 := hy.few
  refine q_drop (ev_call () (ea_cons ((ev_andV (ev_le (ev_cb (ea_cons (ev_var rfl) ea_nil) kb_lenL) ev_int) fun _ => ev_cb (ea_cons ((ev_lcL0 (xs := y.ps) (enc := datP) (fun _ => .bool true) (ev_var rfl) hz fun q _ =>
    ⟨_, _, gj_name, by simp, ev_eqI (ev_cb (ea_cons (ev_var rfl) ea_nil) (kb_lenT (ds := [.int q.1, .int q.2]))) ev_int⟩).cast (d' := .list ((y.ps.map fun _ => true).map .bool)) (by simp)) ea_nil) (cb_all (bs := y.ps.map fun _ => true))).cast (by simp; omega)) ea_nil) trivial) ?_
  -- self.pockets = tuple([tuple(point) for point in pockets])
  refine q_fld rfl (ev_cb (ea_cons (ev_lcL0 (xs := y.ps) (enc := datP) datP (ev_var rfl) hz fun q _ =>
    ⟨_, _, gj_name, by simp, ev_cb (ea_cons (ev_var rfl) ea_nil) kb_tupT⟩) ea_nil) kb_tupL) T.c_Table T.n_Table_pockets rfl (by simp) ?_
  refine sj_frzI (i := 0) (C := T.C_Table) (p := p) (fs := tabF K y.w y.h y.ps) rfl ?_
  -- for number, point in enumerate(self.pockets)
  have self : ∀ {s4 s5 : Slot}, EvR (tVar 0) [.val (InsAt T.C_Table p (tabF K y.w y.h y.ps)), .val (Dat K (.int y.w)), .val (Dat K (.int y.h)), .val (Dat K (.list (y.ps.map datP))), s4, s5] (TabR K T.C_Table y.w y.h y.ps) := fun {s4 s5} => (ev_var rfl).sub insAt_ins
  refine sj_forET (ds := y.ps.map datP) (ea_cons (ev_fld self T.c_Table T.n_Table_pockets rfl) ea_nil) (fun i Δ' => ∃ s4 s5, Δ' = [.val (InsAt T.C_Table p (tabF K y.w y.h y.ps)), .val (Dat K (.int y.w)), .val (Dat K (.int y.h)), .val (Dat K (.list (y.ps.map datP))), s4, s5]) ⟨_, _, rfl⟩ (fun i d Δ' hd hP => ?_) (fun Δ' hP => ?_)
  · obtain ⟨s4, s5, rfl⟩ := hP
    have hi : i < y.ps.length := by
      have := (List.getElem?_eq_some_iff.mp hd).1
      rwa [List.length_map] at this
    have ed : d = datP y.ps[i] := by
      rw [List.getElem?_map, List.getElem?_eq_getElem hi] at hd
      exact (Option.some.inj hd).symm
    subst ed
    refine ⟨_, _, gj_tup rfl (gjs_cons gj_name (gjs_cons gj_name gjs_nil)), ?_⟩
    have hm : (y.ps.map datP)[i]? = some (datP y.ps[i]) := hd
    have cut : DL.cutD (y.ps.map datP) none (some (i : Int)) = (y.ps.take i).map datP := by
      rw [cut_to _ _ (by rw [List.length_map]; omega), List.map_take]
    have e1 : EvR (tSl (rSlT K) (tFld K (tVar 0) "pockets") tNoPart (tPart (tVar 5))) [.val (InsAt T.C_Table p (tabF K y.w y.h y.ps)), .val (Dat K (.int y.w)), .val (Dat K (.int y.h)), .val (Dat K (.list (y.ps.map datP))), .val (Dat K (datP y.ps[i])), .val (Dat K (.int (i : Int)))] (Dat K (.tuple ((y.ps.take i).map datP))) :=
      (ev_slT (ev_fld self T.c_Table T.n_Table_pockets rfl) eo_none (eo_some (ev_var rfl)) (by
        rw [HT.sIx_none, HT.sIx_nat, List.length_map]
        omega)).cast (congrArg PyData.tuple cut)
    have c6 : onT y.w y.h y.ps[i] = true := hy.on _ (List.getElem_mem hi)
    have c7 : ¬ y.ps[i] ∈ y.ps.take i := fun hm => by
      obtain ⟨j, hj, e⟩ := List.getElem_of_mem hm
      rw [List.length_take] at hj
      rw [List.getElem_take] at e
      have := (List.getElem_inj hy.nd).mp e
      omega
    refine sj_drop (ev_call () (ea_cons ((ev_andV (ev_meth (⟨y.w, y.h, y.ps, y.ps[i]⟩ : TabA) self (hasM_ins rfl) (ea_cons (ev_var rfl) ea_nil) rfl trivial) fun _ => ev_inST (ev_var rfl) e1 (shaped_datP y.ps[i]) (lay_datPs _)).cast ?_) ea_nil) trivial) ⟨_, _, rfl⟩
    rw [any_datP, if_pos rfl, decide_eq_false c7]
    show PyData.bool (onT y.w y.h y.ps[i] && true) = PyData.bool true
    rw [c6]
    rfl
  · obtain ⟨s4, s5, rfl⟩ := hP
    rfl
end CU
/-! F3: inverse, chinese. -/
namespace CU
open PySem PySem.Spec PyProof.Rows L2 DL
variable {P : Program} {w : World} {K : PySem.W.Frag} {mg : Str → Option Value} {base : Heap}
abbrev BB : Nat := 2 ^ 128
structure InvPre (a m : Int) : Prop where
  a0 : 0 ≤ a
  aB : a.natAbs < BB
  m0 : 0 < m
  mB : m.natAbs < BB
  bz : ∃ u v : Int, a * u + m * v = 1
def argsI2 (K : PySem.W.Frag) (y : Int × Int) : List RR := [Dat K (.int y.1), Dat K (.int y.2)]
def sp_inverse (K : PySem.W.Frag) : Sp := spOf (argsI2 K) (fun y => InvPre y.1 y.2) (fun y => Dat K (.int (invF y.1 y.2)))
/-- in the midst of inverse -/
structure InvMid (a m l r f g : Int) : Prop where
  l0 : 0 ≤ l
  lB : l.natAbs < BB
  r0 : 0 ≤ r
  rB : r.natAbs < BB
  hf : m ∣ a * f - l
  hg : m ∣ a * g - r
  bz : ∃ u v : Int, l * u + r * v = 1
  fm : (f.natAbs : Int) ≤ m
  gm : (g.natAbs : Int) ≤ m
  s : (f.natAbs : Int) * r + (g.natAbs : Int) * l ≤ m
theorem inv_step {a m l r f g : Int} (h : InvMid a m l r f g) (hr : 0 < r) (mB : m.natAbs < BB) : InvMid a m r (l - l / r * r) g (f - l / r * g) ∧ (l - l / r * r).toNat < r.toNat ∧ 0 ≤ l / r ∧ (l / r).natAbs < BB := by
  obtain ⟨l0, lB, r0, rB, hf, hg, bz, fm, gm, s⟩ := h
  have e1 : l - l / r * r = l % r := by
    have := Int.mul_ediv_add_emod l r
    rw [Int.mul_comm] at this
    omega
  have m0 := Int.emod_nonneg l (show r ≠ 0 by omega)
  have m1 := Int.emod_lt_of_pos l hr
  have q0 : 0 ≤ l / r := Int.ediv_nonneg l0 r0
  have q1 : l / r ≤ l := Int.ediv_le_self _ l0
  have abs1 : ((f - l / r * g).natAbs : Int) ≤ f.natAbs + l / r * g.natAbs := by
    have h1 : (f - l / r * g).natAbs ≤ f.natAbs + (l / r * g).natAbs := Int.natAbs_sub_le f (l / r * g)
    rw [Int.natAbs_mul] at h1
    have h2 : (((l / r).natAbs * g.natAbs : Nat) : Int) = l / r * g.natAbs := by
      rw [Int.natCast_mul, Int.natAbs_of_nonneg q0]
    omega
  have key : (g.natAbs : Int) * (l - l / r * r) + ((f - l / r * g).natAbs : Int) * r ≤ m := by
    have h1 : ((f - l / r * g).natAbs : Int) * r ≤ (f.natAbs + l / r * g.natAbs) * r := Int.mul_le_mul_of_nonneg_right abs1 r0
    rw [Int.add_mul] at h1
    have h2 : l / r * (g.natAbs : Int) * r = (g.natAbs : Int) * (l / r * r) := by
      rw [Int.mul_comm (l / r), Int.mul_assoc]
    rw [Int.mul_sub]
    omega
  refine ⟨⟨r0, rB, by omega, by omega, hg, ?_, ?_, gm, ?_, key⟩, by omega, q0, by omega⟩
  · obtain ⟨z1, h1⟩ := hf
    obtain ⟨z2, h2⟩ := hg
    refine ⟨z1 - l / r * z2, ?_⟩
    rw [Int.mul_sub, Int.mul_sub, Int.mul_left_comm m (l / r) z2, ← h1, ← h2, Int.mul_sub (l / r), Int.mul_left_comm a (l / r) g]
    omega
  · obtain ⟨u, v, hb⟩ := bz
    refine ⟨v + l / r * u, u, ?_⟩
    rw [Int.mul_add, Int.sub_mul, Int.mul_left_comm r (l / r) u, Int.mul_assoc (l / r) r u]
    omega
  · have h1 : 0 ≤ (g.natAbs : Int) * (l - l / r * r) := Int.mul_nonneg (by omega) (by omega)
    have h2 : ((f - l / r * g).natAbs : Int) * 1 ≤ ((f - l / r * g).natAbs : Int) * r := Int.mul_le_mul_of_nonneg_left (by omega) (by omega)
    omega
theorem inv_end {a m l f g : Int} (h : InvMid a m l 0 f g) (hm : 0 < m) : f % m = invF a m := by
  obtain ⟨u, v, hb⟩ := h.bz
  rw [Int.zero_mul, Int.add_zero] at hb
  have hl : l = 1 := Int.eq_one_of_mul_eq_one_right h.l0 hb
  have hf := h.hf
  rw [hl] at hf
  refine (invF_eq ⟨Int.emod_nonneg _ (by omega), Int.emod_lt_of_pos _ hm, ?_⟩).symm
  have h1 : m ∣ a * (f - f % m) := Int.dvd_mul_of_dvd_right (dvd_sub_mod m f)
  have := Int.dvd_sub hf h1
  rw [Int.mul_sub] at this
  have e : a * f - 1 - (a * f - a * (f % m)) = a * (f % m) - 1 := by omega
  rwa [e] at this
theorem ok_inverse (T : TX K mg) : FnOk P w K mg base CX0 1 T.f_inverse T.d_inverse p_inverse (sp_inverse K) := by
  refine fn_ok T.F_inverse sc_inverse (fun _ => rfl) fun cdv A outer s H E hr => ⟨_, (pss_cons (ps_par (i := 2) (j := 3) (by rfl) sc_inverse.nd rfl rfl (by decide) rfl rfl (pa_cons (pv 0) (pa_cons (pv 1) pa_nil)) (by rfl))
(pss_cons (ps_asg (pe_tup (pa_cons pe_int (pa_cons pe_int pa_nil))) (kpg_tup K rfl rfl (pgs_cons (pg_name (i := 4) sc_inverse.nd rfl (Or.inl rfl)) (pgs_cons (pg_name (i := 5) sc_inverse.nd rfl (Or.inl rfl)) pgs_nil))))
(pss_cons (ps_while PassesOwn.never (pt_cmpR op_gt (pv 3) pe_int (nomark _))
(pss_cons (ps_set (i := 6) sc_inverse.nd rfl (Or.inl rfl) (pe_op op_fdivW (pv 2) (pv 3)))
(pss_cons (ps_par (i := 2) (j := 3) (by rfl) sc_inverse.nd rfl rfl (by decide) rfl rfl (pa_cons (pv 3) (pa_cons (pe_op op_sub (pv 2) (pe_op op_mulW (pv 6) (pv 3))) pa_nil)) (by rfl))
(pss_one (ps_par (i := 4) (j := 5) (by rfl) sc_inverse.nd rfl rfl (by decide) rfl rfl (pa_cons (pv 5) (pa_cons (pe_op op_sub (pv 4) (pe_op op_mulW (pv 6) (pv 5))) pa_nil)) (by rfl))))))
(pss_one (ps_ret (pe_op op_mod (pv 4) (pv 1))))))), fun y hy => ?_⟩
  obtain ⟨a, m⟩ := y
  obtain ⟨a0, aB, m0, mB, bz⟩ := hy
  simp only at a0 aB m0 mB bz
  have v {Δ : List Slot} {i : Nat} {z : Int} (h : Δ[i]? = some (.val (Dat K (.int z)))) : EvR (tVar i) Δ (Dat K (.int z)) := ev_var h
  refine q_par (ea_cons (v rfl) (ea_cons (v rfl) ea_nil)) ?_
  refine q_asgG (ev_tup (ds := [.int 1, .int 0]) (ea_cons ev_int (ea_cons ev_int ea_nil))) (gj_tup rfl (gjs_cons gj_name (gjs_cons gj_name gjs_nil))) ?_
  refine sj_seq (M := fun Δ' => ∃ f, Δ'[4]? = some (.val (Dat K (.int f))) ∧ Δ'[1]? = some (.val (Dat K (.int m))) ∧ f % m = invF a m) (sj_while (fun k Δ' => ∃ l r f g s6, Δ' = [.val (Dat K (.int a)), .val (Dat K (.int m)), .val (Dat K (.int l)), .val (Dat K (.int r)), .val (Dat K (.int f)), .val (Dat K (.int g)), s6] ∧ r.toNat = k ∧ InvMid a m l r f g) m.toNat ?_ ?_) ?_
  · refine ⟨a, m, 1, 0, _, rfl, rfl, a0, aB, by omega, mB, by simp, by simp, bz, by simp; omega, by simp; omega, by simp⟩
  · rintro k Δ' ⟨l, r, f, g, s6, rfl, hk, hM⟩
    refine ⟨_, et_test (ev_gt (v rfl) ev_int), fun hb => ?_, fun hb => ?_⟩
    · have r1 : 0 < r := of_decide_eq_true hb
      obtain ⟨hM', hlt, q0, qB⟩ := inv_step hM r1 mB
      have gB : g.natAbs < BB := by have := hM.gm; omega
      refine q_asg (ev_fdivW (v rfl) (v rfl) (wide_div r1 hM.rB (by decide) (by decide))) ?_
      refine q_par (ea_cons (v rfl) (ea_cons (ev_sub (v rfl) (ev_mulW (v rfl) (v rfl) (wide_mul qB hM.rB (by decide) (by decide) (by decide)))) ea_nil)) ?_
      refine sj_par (ea_cons (v rfl) (ea_cons (ev_sub (v rfl) (ev_mulW (v rfl) (v rfl) (wide_mul qB gB (by decide) (by decide) (by decide)))) ea_nil)) ?_
      exact ⟨_, by omega, _, _, _, _, _, rfl, rfl, hM'⟩
    · have r1 : ¬ 0 < r := of_decide_eq_false hb
      have r2 : r = 0 := by have := hM.r0; omega
      subst r2
      exact ⟨f, rfl, rfl, inv_end hM m0⟩
  · rintro Δ' ⟨f, h4, h1, hf⟩
    exact sj_retD (ev_mod (v h4) (v h1) m0) rfl (congrArg PyData.int hf)
/-! ### chinese -/
def optC : Option Cl → PyData
  | none => .none
  | some c => datP c
def argsC2 (K : PySem.W.Frag) (y : Cl × Cl) : List RR := [Dat K (datP y.1), Dat K (datP y.2)]
structure ChPre (a b : Cl) : Prop where
  ga : good a
  gb : good b
  aB : a.2.natAbs < BB
  bB : b.2.natAbs < BB
def sp_chinese (K : PySem.W.Frag) : Sp := spOf (argsC2 K) (fun y => ChPre y.1 y.2) (fun y => Dat K (optC (chF y.1 y.2)))
theorem div_small {a g : Int} {n : Nat} (h0 : a.natAbs < n) (hg : 0 < g) : (a / g).natAbs ≤ a.natAbs := by
  have h1 := Int.mul_ediv_add_emod a g
  have h2 := Int.emod_nonneg a (show g ≠ 0 by omega)
  have h3 := Int.emod_lt_of_pos a hg
  rcases Int.lt_or_le a 0 with z | z
  · have q1 : a / g < 0 := Int.ediv_neg_of_neg_of_pos z hg
    have q2 : a ≤ a / g := Int.le_ediv_of_mul_le hg (by
      have := Int.mul_le_mul_of_nonpos_left (show a ≤ 0 by omega) (show (1 : Int) ≤ g by omega)
      omega)
    omega
  · have q1 : 0 ≤ a / g := Int.ediv_nonneg z (by omega)
    have q2 : a / g ≤ a := Int.ediv_le_self _ z
    omega
theorem ok_chinese (T : TX K mg) : FnOk P w K mg base CX0 2 T.f_chinese T.d_chinese p_chinese (sp_chinese K) := by
  refine fn_ok T.F_chinese sc_chinese (fun _ => rfl) fun cdv A outer s H E hr => ⟨_, (pss_cons (ps_asg (pv 0) (kpg_tup K rfl rfl (pgs_cons (pg_name (i := 2) sc_chinese.nd rfl (Or.inl rfl)) (pgs_cons (pg_name (i := 3) sc_chinese.nd rfl (Or.inl rfl)) pgs_nil))))
(pss_cons (ps_asg (pv 1) (kpg_tup K rfl rfl (pgs_cons (pg_name (i := 4) sc_chinese.nd rfl (Or.inl rfl)) (pgs_cons (pg_name (i := 5) sc_chinese.nd rfl (Or.inl rfl)) pgs_nil))))
(pss_cons (ps_set (i := 6) sc_chinese.nd rfl (Or.inl rfl) (pe_callBfun cr_gcd (by rfl) T.m_gcd (pa_cons (pv 3) (pa_cons (pv 5) pa_nil))))
(pss_cons (ps_if (pt_cmpR op_ne (pe_op op_mod (pe_op op_sub (pv 4) (pv 2)) (pv 6)) pe_int (nomark _))
(pss_one (ps_ret pe_non))
pss_nil)
(pss_cons (ps_set (i := 7) sc_chinese.nd rfl (Or.inl rfl) (pe_op op_mulW (pe_op op_fdivW (pe_op op_sub (pv 4) (pv 2)) (pv 6)) (pe_call (ok_inverse T) (hr.mono (by decide)) (by rfl) T.g_inverse T.F_inverse.kp T.b_inverse .nil pass0 (pa_cons (pe_op op_fdivW (pv 3) (pv 6)) (pa_cons (pe_op op_fdivW (pv 5) (pv 6)) pa_nil)))))
(pss_cons (ps_set (i := 8) sc_chinese.nd rfl (Or.inl rfl) (pe_op op_mulW (pe_op op_fdivW (pv 3) (pv 6)) (pv 5)))
(pss_one (ps_ret (pe_tup (pa_cons (pe_op op_mod (pe_op op_add (pv 2) (pe_op op_mulW (pv 3) (pe_op op_mod (pv 7) (pe_op op_fdivW (pv 5) (pv 6))))) (pv 8)) (pa_cons (pv 8) pa_nil))))))))))), fun y hy => ?_⟩
  obtain ⟨⟨r, m⟩, ⟨q, n⟩⟩ := y
  obtain ⟨ga, gb, aB, bB⟩ := hy
  simp only [good] at ga gb aB bB
  have v {Δ : List Slot} {i : Nat} {z : Int} (h : Δ[i]? = some (.val (Dat K (.int z)))) : EvR (tVar i) Δ (Dat K (.int z)) := ev_var h
  refine q_asgG (ev_var rfl) (gj_tup (ds := [.int r, .int m]) rfl (gjs_cons gj_name (gjs_cons gj_name gjs_nil))) ?_
  refine q_asgG (ev_var rfl) (gj_tup (ds := [.int q, .int n]) rfl (gjs_cons gj_name (gjs_cons gj_name gjs_nil))) ?_
  have hm : 0 < m := by omega
  have hn : 0 < n := by omega
  have hg : 0 < gI m n := gI_pos hm
  have gB : (gI m n).natAbs < BB := by
    have h1 := Int.le_of_dvd hm (gI_dvd_left m n)
    omega
  have m' : 0 < m / gI m n := div_pos_of hm hg (gI_dvd_left m n)
  have n' : 0 < n / gI m n := div_pos_of hn hg (gI_dvd_right m n)
  have mB : (m / gI m n).natAbs < BB := Nat.lt_of_le_of_lt (div_small aB hg) aB
  have nB : (n / gI m n).natAbs < BB := Nat.lt_of_le_of_lt (div_small bB hg) bB
  have hbz := div_bez hm hn
  have iB : (invF (m / gI m n) (n / gI m n)).natAbs < BB := by
    obtain ⟨u, w', hb⟩ := hbz
    rw [invF_eq (inv_of_bez n' hb)]
    have h1 := Int.emod_nonneg u (show n / gI m n ≠ 0 by omega)
    have h2 := Int.emod_lt_of_pos u n'
    omega
  have kB : ((q - r) / gI m n).natAbs < 2 ^ 129 := by
    have h1 : (q - r).natAbs < 2 ^ 129 := by
      have e : BB = 2 ^ 128 := rfl
      omega
    exact Nat.lt_of_le_of_lt (div_small h1 hg) h1
  refine q_asg (ev_cb (ea_cons (v rfl) (ea_cons (v rfl) ea_nil)) cb_gcd) ?_
  have cd {Δ : List Slot} {i j : Nat} (h1 : Δ[i]? = some (.val (Dat K (.int m)))) (h2 : Δ[j]? = some (.val (Dat K (.int (gI m n))))) : EvR (tOp (rI CDivW fun i j => .int (i / j)) (tVar i) (tVar j)) Δ (Dat K (.int (m / gI m n))) := ev_fdivW (ev_var h1) (ev_var h2) (wide_div hg gB (by decide) (by decide))
  have ce {Δ : List Slot} {i j : Nat} (h1 : Δ[i]? = some (.val (Dat K (.int n)))) (h2 : Δ[j]? = some (.val (Dat K (.int (gI m n))))) : EvR (tOp (rI CDivW fun i j => .int (i / j)) (tVar i) (tVar j)) Δ (Dat K (.int (n / gI m n))) := ev_fdivW (ev_var h1) (ev_var h2) (wide_div hg gB (by decide) (by decide))
  refine q_if (et_test (ev_neI (ev_mod (ev_sub (v rfl) (v rfl)) (v rfl) hg) ev_int)) (fun hb => ?_) (fun hb => ?_)
  · have hd : ¬ (q - r) % gI m n = 0 := by simpa [gI] using hb
    refine sj_seqR (sj_retD ev_non rfl ?_)
    show PyData.none = optC (chF (r, m) (q, n))
    unfold chF
    rw [if_pos hd]
    rfl
  · have hd : (q - r) % gI m n = 0 := by simpa [gI] using hb
    refine sj_seqN ?_
    refine q_asg (ev_mulW (ev_fdivW (ev_sub (v rfl) (v rfl)) (v rfl) (wide_div hg gB (by decide) (by decide))) (ev_call ((m / gI m n, n / gI m n) : Int × Int) (ea_cons (cd rfl rfl) (ea_cons (ce rfl rfl) ea_nil)) ⟨by omega, mB, n', nB, hbz⟩) (wide_mul kB iB (by decide) (by decide) (by decide))) ?_
    refine q_asg (ev_mulW (cd rfl rfl) (v rfl) (wide_mul mB bB (by decide) (by decide) (by decide))) ?_
    have hL : 0 < m / gI m n * n := Int.mul_pos m' hn
    have sB : (((q - r) / gI m n * invF (m / gI m n) (n / gI m n)) % (n / gI m n)).natAbs < BB := by
      have h1 := Int.emod_nonneg ((q - r) / gI m n * invF (m / gI m n) (n / gI m n)) (show n / gI m n ≠ 0 by omega)
      have h2 := Int.emod_lt_of_pos ((q - r) / gI m n * invF (m / gI m n) (n / gI m n)) n'
      omega
    refine sj_retD (ev_tup (ds := [.int _, .int _]) (ea_cons (ev_mod (ev_add (v rfl) (ev_mulW (v rfl) (ev_mod (v rfl) (ce rfl rfl) n') (wide_mul aB sB (by decide) (by decide) (by decide)))) (v rfl) hL) (ea_cons (v rfl) ea_nil)) (by show 2 ≤ sizeLine; decide)) rfl ?_
    show _ = optC (chF (r, m) (q, n))
    unfold chF
    rw [if_neg (by simp [hd])]
    rfl
end CU
/-! F4: solved, united, the classes of a part, crossed. -/
namespace CU
open PySem PySem.Spec PyProof.Rows L2 DL
variable {P : Program} {w : World} {K : PySem.W.Frag} {mg : Str → Option Value} {base : Heap}
def clsD (cs : List Cl) : PyData := .list (cs.map datP)
theorem rp_whole (T : TX K mg) : ∀ G, RpA K G [T.v_WHOLE] [datP (0, 1)] := fun G => .cons (T.q_WHOLE G) .nil
/-! ### solved -/
structure SolPre (f r m : Int) : Prop where
  m0 : 0 < m
  ev : m % 2 = 0
  f0 : -2 ≤ f
  f2 : f ≤ 2
def argsI3 (K : PySem.W.Frag) (y : Int × Int × Int) : List RR := [Dat K (.int y.1), Dat K (.int y.2.1), Dat K (.int y.2.2)]
def sp_solved (K : PySem.W.Frag) : Sp := spOf (argsI3 K) (fun y => SolPre y.1 y.2.1 y.2.2) (fun y => Dat K (clsD (solvedF y.1 y.2.1 y.2.2)))
theorem ok_solved (T : TX K mg) : FnOk P w K mg base CX0 1 T.f_solved T.d_solved p_solved (sp_solved K) := by
  refine fn_ok T.F_solved sc_solved (fun _ => rfl) fun cdv A outer s H E hr => ⟨_, (pss_cons (ps_if (pt_cmpR op_lt (pv 0) pe_int (nomark _))
(pss_cons (ps_set (i := 0) sc_solved.nd rfl (Or.inl rfl) (pe_un un_neg (pv 0)))
(pss_one (ps_set (i := 1) sc_solved.nd rfl (Or.inl rfl) (pe_un un_neg (pv 1)))))
pss_nil)
(pss_cons (ps_if (pt_cmpR op_eq (pv 0) pe_int (nomark _))
(pss_one (ps_ret (pe_ifExp (pt_cmpR op_eq (pe_op op_mod (pv 1) (pv 2)) pe_int (nomark _)) (pe_callTy (T := "list") (kc_list K) (by rfl) T.z_list (by decide +kernel) (pa_cons (pe_glob (v := .ref T.a_WHOLE) rfl T.m_WHOLE rfl) pa_nil)) (pe_lst pa_nil))))
pss_nil)
(pss_cons (ps_if (pt_cmpR op_eq (pv 0) pe_int (nomark _))
(pss_one (ps_ret (pe_lst (pa_cons (pe_tup (pa_cons (pe_op op_mod (pv 1) (pv 2)) (pa_cons (pv 2) pa_nil))) pa_nil))))
pss_nil)
(pss_cons (ps_if (pt_cmpR op_eq (pe_op op_mod (pv 2) pe_int) pe_int (nomark _))
(pss_one (ps_ret (pe_lst (pa_cons (pe_tup (pa_cons (pe_op op_mod (pe_op op_mul (pv 1) (pe_op op_fdiv (pe_op op_add (pv 2) pe_int) pe_int)) (pv 2)) (pa_cons (pv 2) pa_nil))) pa_nil))))
pss_nil)
(pss_cons (ps_if (pt_cmpR op_eq (pe_op op_mod (pv 1) pe_int) pe_int (nomark _))
(pss_one (ps_ret (pe_lst pa_nil)))
pss_nil)
(pss_one (ps_ret (pe_lst (pa_cons (pe_tup (pa_cons (pe_op op_mod (pe_op op_fdiv (pv 1) pe_int) (pe_op op_fdiv (pv 2) pe_int)) (pa_cons (pe_op op_fdiv (pv 2) pe_int) pa_nil))) pa_nil))))))))), fun y hy => ?_⟩
  obtain ⟨f, r, m⟩ := y
  obtain ⟨m0, ev, f0, f2⟩ := hy
  simp only at m0 ev f0 f2
  have v {Δ : List Slot} {i : Nat} {z : Int} (h : Δ[i]? = some (.val (Dat K (.int z)))) : EvR (tVar i) Δ (Dat K (.int z)) := ev_var h
  refine sj_seq1 (Δ' := [.val (Dat K (.int (if f < 0 then -f else f))), .val (Dat K (.int (if f < 0 then -r else r))), .val (Dat K (.int m))]) (sj_if (et_test (ev_lt (v rfl) ev_int)) (fun hb => ?_) (fun hb => ?_)) ?_
  · have h : f < 0 := of_decide_eq_true hb
    refine q_asg (ev_neg (v rfl)) (sj_asg (ev_neg (v rfl)) ?_)
    simp only [if_pos h]
    rfl
  · have h : ¬ f < 0 := of_decide_eq_false hb
    refine sj_next ?_
    simp only [if_neg h]
    rfl
  show SJ _ _ (retA (Dat K (clsD (solvedF f r m))))
  unfold solvedF
  generalize hf : (if f < 0 then -f else f) = f'
  generalize hq : (if f < 0 then -r else r) = q
  refine q_if (et_test (ev_eqI (v rfl) ev_int)) (fun hb => ?_) (fun hb => ?_)
  · have h : f' = 0 := of_decide_eq_true hb
    rw [if_pos h]
    refine sj_seqR (sj_retD (ev_ifE (et_test (ev_eqI (ev_mod (v rfl) (v rfl) m0) ev_int)) (fun h2 => (ev_listW (v := T.v_WHOLE) T.r_WHOLE (rp_whole T)).cast (d' := clsD (if q % m = 0 then [(0, 1)] else [])) ?_) (fun h2 => (ev_lst (ds := []) ea_nil).cast ?_)) rfl rfl)
    · rw [if_pos (of_decide_eq_true h2)]
      rfl
    · rw [if_neg (of_decide_eq_false h2)]
      rfl
  · have h : ¬ f' = 0 := of_decide_eq_false hb
    rw [if_neg h]
    refine sj_seqN (q_if (et_test (ev_eqI (v rfl) ev_int)) (fun hb => ?_) (fun hb => ?_))
    · have h1 : f' = 1 := of_decide_eq_true hb
      rw [if_pos h1]
      exact sj_seqR (sj_retD (ev_lst (ds := [.tuple [.int _, .int _]]) (ea_cons (ev_tup (ds := [.int _, .int _]) (ea_cons (ev_mod (v rfl) (v rfl) m0) (ea_cons (v rfl) ea_nil)) (by show 2 ≤ sizeLine; decide)) ea_nil) (by show 1 ≤ sizeLine; decide)) rfl rfl)
    · have h1 : ¬ f' = 1 := of_decide_eq_false hb
      rw [if_neg h1]
      refine sj_seqN (q_ifF (et_test (ev_eqI (ev_mod (v rfl) ev_int (by decide)) ev_int)) (decide_eq_false (by omega)) (sj_seqN ?_))
      refine q_if (et_test (ev_eqI (ev_mod (v rfl) ev_int (by decide)) ev_int)) (fun hb => ?_) (fun hb => ?_)
      · rw [if_pos (of_decide_eq_true hb)]
        exact sj_seqR (sj_retD (ev_lst (ds := []) ea_nil) rfl rfl)
      · rw [if_neg (of_decide_eq_false hb)]
        have c2 {z : Int} : CDiv z 2 := ⟨by decide, by decide⟩
        exact sj_seqN (sj_retD (ev_lst (ds := [.tuple [.int _, .int _]]) (ea_cons (ev_tup (ds := [.int _, .int _]) (ea_cons (ev_mod (ev_fdiv (v rfl) ev_int c2) (ev_fdiv (v rfl) ev_int c2) (by omega)) (ea_cons (ev_fdiv (v rfl) ev_int c2) ea_nil)) (by show 2 ≤ sizeLine; decide)) ea_nil) (by show 1 ≤ sizeLine; decide)) rfl rfl)
/-! ### united -/
theorem le_datP : PySem.W.dataLe false datP = leP := PySem.W.dataLe_ii Prod.fst Prod.snd
theorem alike_datP (ps : List Pt) : PySem.W.AllAlike (ps.map datP) := fun d hd d' hd' => by
  obtain ⟨p, _, rfl⟩ := List.mem_map.mp hd
  obtain ⟨q, _, rfl⟩ := List.mem_map.mp hd'
  simp [datP, PySem.W.alike, PySem.W.alikeAll]
theorem sortable_datP (ps : List Pt) : PySem.W.Sortable (ps.map datP) := Or.inl fun d hd => by
  obtain ⟨p, _, rfl⟩ := List.mem_map.mp hd
  exact ⟨_, _, rfl⟩
theorem depth_datP (p : Pt) : (datP p).depth ≤ 8 := by simp [datP, PyData.depth, PyData.depthAll]
theorem cb_sortP {ps : List Pt} : CbE (rSortedD K) [Dat K (.list (ps.map datP))] (Dat K (.list ((sortP ps).map datP))) := by
  have h := cb_sorted (K := K) (enc := datP) (bs := ps) (alike_datP ps) (sortable_datP ps) (fun p _ => depth_datP p)
  rw [le_datP] at h
  exact h
def argsLL (K : PySem.W.Frag) (y : List Cl × List Cl) : List RR := [Dat K (clsD y.1), Dat K (clsD y.2)]
def sp_united (K : PySem.W.Frag) : Sp := spOf (argsLL K) (fun y => y.1.length ≤ 100 ∧ y.2.length ≤ 100) (fun y => Dat K (clsD (unitedF y.1 y.2)))
theorem keys_take (l : List Cl) (i : Nat) (c : Cl) (h : l[i]? = some c) : keysF (l.take (i + 1)) = putP (keysF (l.take i)) (c.2, c.1) := by
  unfold keysF
  rw [List.take_add_one, h, List.foldl_append]
  rfl
theorem ok_united (T : TX K mg) : FnOk P w K mg base CX0 1 T.f_united T.d_united p_united (sp_united K) := by
  refine fn_ok T.F_united sc_united (fun _ => rfl) fun cdv A outer s H E hr => ⟨_, (pss_cons (ps_if (PW.pt (pw_or (pt_cmpR (kop_inS K rfl (room65 hr)) (pe_ix (kix_list K) (pe_glob (v := .ref T.a_WHOLE) rfl T.m_WHOLE rfl) pe_int (fun _ _ => rfl)) (pv 0) (by rfl)) (pw_or1 (pt_cmpR (kop_inS K rfl (room65 hr)) (pe_ix (kix_list K) (pe_glob (v := .ref T.a_WHOLE) rfl T.m_WHOLE rfl) pe_int (fun _ _ => rfl)) (pv 1) (by rfl)))))
(pss_one (ps_ret (pe_callTy (T := "list") (kc_list K) (by rfl) T.z_list (by decide +kernel) (pa_cons (pe_glob (v := .ref T.a_WHOLE) rfl T.m_WHOLE rfl) pa_nil))))
pss_nil)
(pss_cons (ps_set (i := 2) sc_united.nd rfl (Or.inl rfl) pe_dnewT)
(pss_cons (ps_for PassesOwn.never rfl (kpi_list K rfl (pe_op op_cat (pv 0) (pv 1))) (kpg_tup (n := 2) K rfl rfl (pgs_cons (pg_name (i := 3) sc_united.nd rfl (Or.inl rfl)) (pgs_cons (pg_name (i := 4) sc_united.nd rfl (Or.inl rfl)) pgs_nil)))
(pss_one (ps_dput (hu_of hr) (pv 2) (pe_tup (pa_cons (pv 4) (pa_cons (pv 3) pa_nil))) pe_bl rfl)))
(pss_one (ps_ret (pe_lc (own := [("modulus", 4), ("remainder", 3)]) (by rfl) sc_united.nd (kpi_list K rfl (pe_callB (id := "sorted") (kc_sorted K rfl hr.units) (by rfl) T.z_sorted (by decide +kernel) (pa_cons (pe_callTy (T := "list") (r := rListDT) (call_list_dT rfl) (by rfl) T.z_list (by decide +kernel) (pa_cons (pv 2) pa_nil)) pa_nil))) (blkOk_by (N := N_united) (sc := defScope s_united) (by decide +kernel)) (fun _ _ _ _ _ => kpg_tup (n := 2) K rfl rfl (pgs_cons (pg_name (i := 4) sc_united.nd rfl (Or.inl rfl)) (pgs_cons (pg_name (i := 3) sc_united.nd rfl (Or.inl rfl)) pgs_nil))) (fun _ _ _ _ _ => pts_nil) (fun _ _ _ _ _ => (pe_tup (pa_cons (pv 3) (pa_cons (pv 4) pa_nil)))))))))), fun y hy => ?_⟩
  obtain ⟨one, other⟩ := y
  obtain ⟨l1, l2⟩ := hy
  simp only at l1 l2
  have eW {Δ : List Slot} : EvR (tOp (rIxL K) (tC (.ref T.a_WHOLE)) (tC (.int 0))) Δ (Dat K (datP (0, 1))) := ev_ixW (v := T.v_WHOLE) T.r_WHOLE ev_int rfl T.q_WHOLE
  have eI {Δ : List Slot} {i : Nat} {l : List Cl} (h : Δ[i]? = some (.val (Dat K (clsD l)))) : EvT (tTest (tOp (rInS K false) (tOp (rIxL K) (tC (.ref T.a_WHOLE)) (tC (.int 0))) (tVar i))) Δ (decide ((0, 1) ∈ l)) :=
    (et_test (ev_inSL eW (ev_var h) (shaped_datP _) (lay_datPs l))).cast (by rw [if_neg Bool.false_ne_true, any_datP])
  show SJ _ _ (retA (Dat K (clsD (unitedF one other))))
  refine q_if (et_or (eI rfl) fun _ => eI rfl) (fun hb => ?_) (fun hb => ?_)
  · have h : (0, 1) ∈ one ∨ (0, 1) ∈ other := by simpa using hb
    refine sj_seqR (sj_retD ((ev_listW (v := T.v_WHOLE) T.r_WHOLE (rp_whole T))) rfl ?_)
    unfold unitedF
    rw [if_pos h]
    rfl
  · have h : ¬ ((0, 1) ∈ one ∨ (0, 1) ∈ other) := by simpa [not_or] using hb
    refine sj_seqN (q_dnew ?_)
    have hcat {Δ : List Slot} (h0 : Δ[0]? = some (.val (Dat K (clsD one)))) (h1 : Δ[1]? = some (.val (Dat K (clsD other)))) : EvR (tOp rCat (tVar 0) (tVar 1)) Δ (Dat K (.list ((one ++ other).map datP))) :=
      (ev_cat (ev_var h0) (ev_var h1) (by rw [List.length_map, List.length_map]; exact Nat.le_trans (show _ ≤ 200 by omega) (by decide))).cast (by rw [List.map_append])
    refine sj_seq (M := fun Δ' => ∃ s3 s4, Δ' = [.val (Dat K (clsD one)), .val (Dat K (clsD other)), .opn (ODict (keysF (one ++ other))), s3, s4]) (sj_forL (hcat rfl rfl) (fun i Δ' => ∃ s3 s4, Δ' = [.val (Dat K (clsD one)), .val (Dat K (clsD other)), .opn (ODict (keysF ((one ++ other).take i))), s3, s4]) ⟨_, _, rfl⟩ (fun i d Δ' hd hP => ?_) (fun Δ' hP => ?_)) ?_
    · obtain ⟨s3, s4, rfl⟩ := hP
      rw [List.getElem?_map] at hd
      cases hc : (one ++ other)[i]? with
      | none =>
        rw [hc] at hd
        cases hd
      | some c =>
        rw [hc] at hd
        cases Option.some.inj hd
        refine ⟨_, _, gj_tup (ds := [.int c.1, .int c.2]) rfl (gjs_cons gj_name (gjs_cons gj_name gjs_nil)), ?_⟩
        have hlen : (keysF ((one ++ other).take i)).length < sizeLine := by
          have h1 := keys_len ((one ++ other).take i) []
          have h2 : ((one ++ other).take i).length ≤ 200 := by
            rw [List.length_take, List.length_append]
            omega
          have h3 : (keysF ((one ++ other).take i)).length ≤ 200 := by
            unfold keysF
            simp only [List.length_nil] at h1
            omega
          exact Nat.lt_of_le_of_lt h3 (by decide)
        refine sj_dput (k := (c.2, c.1)) rfl (ev_bl (K := K)) (ev_var rfl) (ev_var rfl) hlen ?_
        rw [← keys_take _ _ _ hc]
        exact ⟨_, _, rfl⟩
    · obtain ⟨s3, s4, rfl⟩ := hP
      refine ⟨s3, s4, ?_⟩
      rw [List.length_map, List.take_length]
    · rintro Δ' ⟨s3, s4, rfl⟩
      have hlen : (sortP (keysF (one ++ other))).length < sizeLine := by
        rw [(sortP_perm _).length_eq]
        have h1 := keys_len (one ++ other) []
        rw [List.length_append] at h1
        unfold keysF
        simp only [List.length_nil] at h1
        exact Nat.lt_of_le_of_lt (show _ ≤ 200 by omega) (by decide)
      refine sj_retD (ev_lcL0 (xs := sortP (keysF (one ++ other))) (enc := datP) (fun k => datP (swapC k)) (ev_cb (ea_cons (ev_listDT rfl) ea_nil) cb_sortP) hlen fun k _ => ⟨_, _, gj_tup (ds := [.int k.1, .int k.2]) rfl (gjs_cons gj_name (gjs_cons gj_name gjs_nil)), by simp, ev_tup (ds := [.int k.2, .int k.1]) (ea_cons (ev_var rfl) (ea_cons (ev_var rfl) ea_nil)) (by show 2 ≤ sizeLine; decide)⟩) rfl ?_
      show _ = clsD (unitedF one other)
      unfold unitedF clsD
      rw [if_neg h, List.map_map]
      rfl
/-! ### the classes of a part -/
structure MeetPre (s d e : Int) : Prop where
  s0 : 0 < s
  hd : is1 d
  he : is1 e
structure MeetA where
  s : Int
  a : Int
  d : Int
  b : Int
  e : Int
theorem two_mul_ev {s : Int} (h : 0 < s) : 0 < 2 * s ∧ 2 * s % 2 = 0 := by omega
theorem sub_is {d e : Int} (hd : is1 d) (he : is1 e) : -2 ≤ d - e ∧ d - e ≤ 2 ∧ -2 ≤ d + e ∧ d + e ≤ 2 := by
  rcases hd with z | z | z <;> rcases he with y | y | y <;> subst z <;> subst y <;> decide
def argsMC (K : PySem.W.Frag) (y : MeetA) : List RR := [Dat K (.int y.s), Dat K (.int y.a), Dat K (.int y.d), Dat K (.int y.b), Dat K (.int y.e)]
def sp_meeting_classes (K : PySem.W.Frag) : Sp := spOf (argsMC K) (fun y => MeetPre y.s y.d y.e) (fun y => Dat K (clsD (meetF y.s y.a y.d y.b y.e)))
theorem cmul2 {z : Int} : CMul 2 z := Or.inl ⟨by decide, by decide⟩
theorem ok_meeting_classes (T : TX K mg) : FnOk P w K mg base CX0 2 T.f_meeting_classes T.d_meeting_classes p_meeting_classes (sp_meeting_classes K) := by
  refine fn_ok T.F_meeting_classes sc_meeting_classes (fun _ => rfl) fun cdv A outer s H E hr => ⟨_, (pss_one (ps_ret (pe_call (ok_united T) (hr.mono (by decide)) (by rfl) T.g_united T.F_united.kp T.b_united .nil pass0 (pa_cons (pe_call (ok_solved T) (hr.mono (by decide)) (by rfl) T.g_solved T.F_solved.kp T.b_solved .nil pass0 (pa_cons (pe_op op_sub (pv 2) (pv 4)) (pa_cons (pe_op op_sub (pv 3) (pv 1)) (pa_cons (pe_op op_mul pe_int (pv 0)) pa_nil)))) (pa_cons (pe_call (ok_solved T) (hr.mono (by decide)) (by rfl) T.g_solved T.F_solved.kp T.b_solved .nil pass0 (pa_cons (pe_op op_add (pv 2) (pv 4)) (pa_cons (pe_op op_sub (pe_un un_neg (pv 3)) (pv 1)) (pa_cons (pe_op op_mul pe_int (pv 0)) pa_nil)))) pa_nil))))), fun y hy => ?_⟩
  obtain ⟨sz, a, d, b, e⟩ := y
  obtain ⟨s0, hd, he⟩ := hy
  simp only at s0 hd he
  have v {Δ : List Slot} {i : Nat} {z : Int} (h : Δ[i]? = some (.val (Dat K (.int z)))) : EvR (tVar i) Δ (Dat K (.int z)) := ev_var h
  have b1 := sub_is hd he
  have b2 := two_mul_ev s0
  have S1 := sol_ok (d - e) (b - a) (2 * sz) b2.1 b2.2 b1.1 b1.2.1
  have S2 := sol_ok (d + e) (-b - a) (2 * sz) b2.1 b2.2 b1.2.2.1 b1.2.2.2
  have l1 := S1.len
  have l2 := S2.len
  exact sj_ret (ev_call ((solvedF (d - e) (b - a) (2 * sz), solvedF (d + e) (-b - a) (2 * sz)) : List Cl × List Cl)
    (ea_cons (ev_call ((d - e, b - a, 2 * sz) : Int × Int × Int) (ea_cons (ev_sub (v rfl) (v rfl)) (ea_cons (ev_sub (v rfl) (v rfl)) (ea_cons (ev_mul ev_int (v rfl) cmul2) ea_nil))) ⟨b2.1, b2.2, b1.1, b1.2.1⟩)
    (ea_cons (ev_call ((d + e, -b - a, 2 * sz) : Int × Int × Int) (ea_cons (ev_add (v rfl) (v rfl)) (ea_cons (ev_sub (ev_neg (v rfl)) (v rfl)) (ea_cons (ev_mul ev_int (v rfl) cmul2) ea_nil))) ⟨b2.1, b2.2, b1.2.2.1, b1.2.2.2⟩) ea_nil)) ⟨Nat.le_trans l1 (by decide), Nat.le_trans l2 (by decide)⟩) fun _ _ h => h
structure PointA where
  s : Int
  a : Int
  d : Int
  g : Int
def argsPC (K : PySem.W.Frag) (y : PointA) : List RR := [Dat K (.int y.s), Dat K (.int y.a), Dat K (.int y.d), Dat K (.int y.g)]
def sp_point_classes (K : PySem.W.Frag) : Sp := spOf (argsPC K) (fun y => MeetPre y.s y.d 0) (fun y => Dat K (clsD (meetF y.s y.a y.d y.g 0)))
theorem ok_point_classes (T : TX K mg) : FnOk P w K mg base CX0 2 T.f_point_classes T.d_point_classes p_point_classes (sp_point_classes K) := by
  refine fn_ok T.F_point_classes sc_point_classes (fun _ => rfl) fun cdv A outer s H E hr => ⟨_, (pss_one (ps_ret (pe_call (ok_united T) (hr.mono (by decide)) (by rfl) T.g_united T.F_united.kp T.b_united .nil pass0 (pa_cons (pe_call (ok_solved T) (hr.mono (by decide)) (by rfl) T.g_solved T.F_solved.kp T.b_solved .nil pass0 (pa_cons (pv 2) (pa_cons (pe_op op_sub (pv 3) (pv 1)) (pa_cons (pe_op op_mul pe_int (pv 0)) pa_nil)))) (pa_cons (pe_call (ok_solved T) (hr.mono (by decide)) (by rfl) T.g_solved T.F_solved.kp T.b_solved .nil pass0 (pa_cons (pv 2) (pa_cons (pe_op op_sub (pe_un un_neg (pv 3)) (pv 1)) (pa_cons (pe_op op_mul pe_int (pv 0)) pa_nil)))) pa_nil))))), fun y hy => ?_⟩
  obtain ⟨sz, a, d, g⟩ := y
  obtain ⟨s0, hd, he⟩ := hy
  simp only at s0 hd he
  have v {Δ : List Slot} {i : Nat} {z : Int} (h : Δ[i]? = some (.val (Dat K (.int z)))) : EvR (tVar i) Δ (Dat K (.int z)) := ev_var h
  have b1 := sub_is hd he
  rw [Int.sub_zero, Int.add_zero] at b1
  have b2 := two_mul_ev s0
  have S1 := sol_ok d (g - a) (2 * sz) b2.1 b2.2 b1.1 b1.2.1
  have S2 := sol_ok d (-g - a) (2 * sz) b2.1 b2.2 b1.1 b1.2.1
  have l1 := S1.len
  have l2 := S2.len
  refine sj_ret (ev_call ((solvedF d (g - a) (2 * sz), solvedF d (-g - a) (2 * sz)) : List Cl × List Cl)
    (ea_cons (ev_call ((d, g - a, 2 * sz) : Int × Int × Int) (ea_cons (v rfl) (ea_cons (ev_sub (v rfl) (v rfl)) (ea_cons (ev_mul ev_int (v rfl) cmul2) ea_nil))) ⟨b2.1, b2.2, b1.1, b1.2.1⟩)
    (ea_cons (ev_call ((d, -g - a, 2 * sz) : Int × Int × Int) (ea_cons (v rfl) (ea_cons (ev_sub (ev_neg (v rfl)) (v rfl)) (ea_cons (ev_mul ev_int (v rfl) cmul2) ea_nil))) ⟨b2.1, b2.2, b1.1, b1.2.1⟩) ea_nil)) ⟨Nat.le_trans l1 (by decide), Nat.le_trans l2 (by decide)⟩) fun G u h => ?_
  have e : meetF sz a d g 0 = unitedF (solvedF d (g - a) (2 * sz)) (solvedF d (-g - a) (2 * sz)) := by
    unfold meetF
    rw [Int.sub_zero, Int.add_zero]
  show (Dat K (clsD (meetF sz a d g 0))).p G u
  rw [e]
  exact h
end CU
/-! F5: crossed, is_class, are_apart. -/
namespace CU
open PySem PySem.Spec PyProof.Rows L2 DL
variable {P : Program} {w : World} {K : PySem.W.Frag} {mg : Str → Option Value} {base : Heap}
theorem map_get {α : Type} {l : List α} {f : α → PyData} {i : Nat} {d : PyData} (h : (l.map f)[i]? = some d) : ∃ c, l[i]? = some c ∧ d = f c := by
  rw [List.getElem?_map] at h
  cases hc : l[i]? with
  | none =>
    rw [hc] at h
    cases h
  | some c =>
    rw [hc] at h
    exact ⟨c, rfl, (Option.some.inj h).symm⟩
theorem crossOne_take (a : Cl) (l : List Cl) (j : Nat) (b : Cl) (h : l[j]? = some b) : crossOne a (l.take (j + 1)) = crossOne a (l.take j) ++ (match chF a b with | none => [] | some c => [swapC c]) := by
  unfold crossOne
  rw [List.take_add_one, h, List.filterMap_append]
  cases hc : chF a b with
  | none => simp [hc]
  | some c => simp [hc]
theorem crossL_take (one other : List Cl) (i : Nat) (a : Cl) (h : one[i]? = some a) : crossL (one.take (i + 1)) other = crossL (one.take i) other ++ crossOne a other := by
  unfold crossL
  rw [List.take_add_one, h, List.flatMap_append]
  simp
structure CrPre (one other : List Cl) : Prop where
  g1 : ∀ c ∈ one, good c ∧ c.2.natAbs < BB
  g2 : ∀ c ∈ other, good c ∧ c.2.natAbs < BB
  l1 : one.length ≤ 2
  l2 : other.length ≤ 2
def sp_crossed (K : PySem.W.Frag) : Sp := spOf (argsLL K) (fun y => CrPre y.1 y.2) (fun y => Dat K (clsD (crossedF y.1 y.2)))
theorem ok_crossed (T : TX K mg) : FnOk P w K mg base CX0 3 T.f_crossed T.d_crossed p_crossed (sp_crossed K) := by
  refine fn_ok T.F_crossed sc_crossed (fun _ => rfl) fun cdv A outer s H E hr => ⟨_, (pss_cons (ps_set (i := 2) sc_crossed.nd rfl (Or.inl rfl) (pe_lst pa_nil))
(pss_cons (ps_for PassesOwn.never rfl (kpi_list K rfl (pv 0)) (pg_name (i := 3) sc_crossed.nd rfl (Or.inl rfl))
(pss_one (ps_for PassesOwn.never rfl (kpi_list K rfl (pv 1)) (pg_name (i := 4) sc_crossed.nd rfl (Or.inl rfl))
(pss_cons (ps_set (i := 5) sc_crossed.nd rfl (Or.inl rfl) (pe_call (ok_chinese T) (hr.mono (by decide)) (by rfl) T.g_chinese T.F_chinese.kp T.b_chinese .nil pass0 (pa_cons (pv 3) (pa_cons (pv 4) pa_nil))))
(pss_one (ps_if (pt_cmpR op_notN (pv 5) pe_non (nomark _))
(pss_one (kps_app K rfl (pv 2) (pa_cons (pe_tup (pa_cons (pe_ix (kix_tup K) (pv 5) pe_int (fun _ _ => rfl)) (pa_cons (pe_ix (kix_tup K) (pv 5) pe_int (fun _ _ => rfl)) pa_nil))) pa_nil)))
pss_nil))))))
(pss_one (ps_ret (pe_lc (own := [("modulus", 6), ("remainder", 7)]) (by rfl) sc_crossed.nd (kpi_list K rfl (pe_callB (id := "sorted") (kc_sorted K rfl hr.units) (by rfl) T.z_sorted (by decide +kernel) (pa_cons (pv 2) pa_nil))) (blkOk_by (N := N_crossed) (sc := defScope s_crossed) (by decide +kernel)) (fun _ _ _ _ _ => kpg_tup (n := 2) K rfl rfl (pgs_cons (pg_name (i := 6) sc_crossed.nd rfl (Or.inl rfl)) (pgs_cons (pg_name (i := 7) sc_crossed.nd rfl (Or.inl rfl)) pgs_nil))) (fun _ _ _ _ _ => pts_nil) (fun _ _ _ _ _ => (pe_tup (pa_cons (pv 7) (pa_cons (pv 6) pa_nil))))))))), fun y hy => ?_⟩
  obtain ⟨one, other⟩ := y
  obtain ⟨g1, g2, l1, l2⟩ := hy
  simp only at g1 g2 l1 l2
  refine q_new (K := K) ?_
  refine sj_seq (M := fun Δ' => ∃ s3 s4 s5 s6 s7, Δ' = [.val (Dat K (clsD one)), .val (Dat K (clsD other)), .opn (OLst K ((crossL one other).map datP)), s3, s4, s5, s6, s7])
    (sj_forL (ds := one.map datP) (ev_var rfl) (fun i Δ' => ∃ s3 s4 s5 s6 s7, Δ' = [.val (Dat K (clsD one)), .val (Dat K (clsD other)), .opn (OLst K ((crossL (one.take i) other).map datP)), s3, s4, s5, s6, s7]) ⟨_, _, _, _, _, rfl⟩ (fun i d Δ' hd hP => ?_) (fun Δ' hP => ?_)) ?_
  · obtain ⟨s3, s4, s5, s6, s7, rfl⟩ := hP
    obtain ⟨a, ha, rfl⟩ := map_get hd
    have ma : a ∈ one := List.mem_of_getElem? ha
    refine ⟨_, _, gj_name, ?_⟩
    refine sj_forL (ds := other.map datP) (ev_var rfl) (fun j Δ' => ∃ s4 s5 s6 s7, Δ' = [.val (Dat K (clsD one)), .val (Dat K (clsD other)), .opn (OLst K ((crossL (one.take i) other ++ crossOne a (other.take j)).map datP)), .val (Dat K (datP a)), s4, s5, s6, s7]) ⟨_, _, _, _, by rw [List.take_zero, show crossOne a [] = [] from rfl, List.append_nil]; rfl⟩ (fun j d Δ' hd hP => ?_) (fun Δ' hP => ?_)
    · obtain ⟨s4, s5, s6, s7, rfl⟩ := hP
      obtain ⟨b, hb, rfl⟩ := map_get hd
      have mb : b ∈ other := List.mem_of_getElem? hb
      refine ⟨_, _, gj_name, ?_⟩
      refine q_asg (ev_call ((a, b) : Cl × Cl) (ea_cons (ev_var rfl) (ea_cons (ev_var rfl) ea_nil)) ⟨(g1 a ma).1, (g2 b mb).1, (g1 a ma).2, (g2 b mb).2⟩) ?_
      have hlen : ((crossL (one.take i) other ++ crossOne a (other.take j)).map datP).length < sizeLine := by
        have h1 := crossL_len (one.take i) other
        have h2 := crossOne_len a (other.take j)
        have h3 : (one.take i).length ≤ 2 := by rw [List.length_take]; omega
        have h4 : (other.take j).length ≤ 2 := by rw [List.length_take]; omega
        have h5 : (one.take i).length * other.length ≤ 2 * 2 := Nat.mul_le_mul h3 l2
        rw [List.length_map, List.length_append]
        exact Nat.lt_of_le_of_lt (show _ ≤ 6 by omega) (by decide)
      have tk := crossOne_take a other j b hb
      cases hc : chF a b with
      | none =>
        rw [hc] at tk
        refine sj_ifF (et_test (ev_notN (K := K) (d := .none) (ev_var rfl) ev_non)) rfl (sj_next ?_)
        dsimp only
        rw [tk, List.append_nil]
        exact ⟨_, _, _, _, rfl⟩
      | some c =>
        rw [hc] at tk
        have e5 : ∀ {Δ : List Slot}, Δ[5]? = some (.val (Dat K (.tuple [.int c.1, .int c.2]))) → EvR (tVar 5) Δ (Dat K (.tuple [.int c.1, .int c.2])) := fun h => ev_var h
        refine sj_ifT (et_test (ev_notN (K := K) (d := datP c) (ev_var rfl) ev_non)) rfl ?_
        refine sj_app rfl (ev_tup (ds := [.int c.2, .int c.1]) (ea_cons (ev_ixT (e5 rfl) ev_int rfl) (ea_cons (ev_ixT (e5 rfl) ev_int rfl) ea_nil)) (by show 2 ≤ sizeLine; decide)) hlen ?_
        dsimp only
        rw [tk, ← List.append_assoc, List.map_append (l₂ := [swapC c])]
        exact ⟨_, _, _, _, rfl⟩
    · obtain ⟨s4, s5, s6, s7, rfl⟩ := hP
      dsimp only
      rw [List.length_map, List.take_length, crossL_take _ _ _ _ ha]
      exact ⟨_, _, _, _, _, rfl⟩
  · obtain ⟨s3, s4, s5, s6, s7, rfl⟩ := hP
    rw [List.length_map, List.take_length]
    exact ⟨_, _, _, _, _, rfl⟩
  · rintro Δ' ⟨s3, s4, s5, s6, s7, rfl⟩
    refine sj_frz (i := 2) rfl ?_
    have hlen : (sortP (crossL one other)).length < sizeLine := by
      rw [(sortP_perm _).length_eq]
      have h1 := crossL_len one other
      have h5 : one.length * other.length ≤ 2 * 2 := Nat.mul_le_mul l1 l2
      exact Nat.lt_of_le_of_lt (show _ ≤ 6 by omega) (by decide)
    refine sj_retD (ev_lcL0 (xs := sortP (crossL one other)) (enc := datP) (fun k => datP (swapC k)) (ev_cb (ea_cons (ev_var rfl) ea_nil) cb_sortP) hlen fun k _ => ⟨_, _, gj_tup (ds := [.int k.1, .int k.2]) rfl (gjs_cons gj_name (gjs_cons gj_name gjs_nil)), by simp, ev_tup (ds := [.int k.2, .int k.1]) (ea_cons (ev_var rfl) (ea_cons (ev_var rfl) ea_nil)) (by show 2 ≤ sizeLine; decide)⟩) rfl ?_
    show _ = clsD (crossedF one other)
    unfold crossedF clsD
    rw [List.map_map]
    rfl
/-! ### is_class, are_apart -/
def sp_is_class (K : PySem.W.Frag) : Sp := spOf (fun c : Cl => [Dat K (datP c)]) good (fun _ => Dat K (.bool true))
theorem ok_is_class (T : TX K mg) : FnOk P w K mg base CX0 1 T.f_is_class T.d_is_class p_is_class (sp_is_class K) := by
  refine fn_ok T.F_is_class sc_is_class (fun _ => rfl) fun cdv A outer s H E hr => ⟨_, (pss_cons (ps_if (PW.pt (pw_or (pt_not (pt_val (pe_callB (id := "isinstance") (kc_isiT K) (by rfl) T.z_isinstance (by decide +kernel) (pa_cons (pv 0) (pa_cons (pe_tup (pa_cons (pe_bltn (v := .ty "tuple") (by rfl) T.z_tuple (by decide +kernel) rfl) (pa_cons (pe_bltn (v := .ty "list") (by rfl) T.z_list (by decide +kernel) rfl) pa_nil))) pa_nil))))) (pw_or (pt_cmpR op_ne (pe_callB (id := "len") (kc_len K) (by rfl) T.z_len (by decide +kernel) (pa_cons (pv 0) pa_nil)) pe_int (nomark _)) (pw_or1 (pt_not (pt_val (pe_callB (id := "all") (kc_all K rfl rfl) (by rfl) T.z_all (by decide +kernel) (pa_cons (pe_lc (own := [("part", 1)]) (by rfl) sc_is_class.nd (kpi_tup K rfl (pv 0)) (blkOk_by (N := N_is_class) (sc := defScope s_is_class) (by decide +kernel)) (fun _ _ _ _ _ => pg_name (i := 1) sc_is_class.nd rfl (Or.inl rfl)) (fun _ _ _ _ _ => pts_nil) (fun _ _ _ _ _ => (pe_callB (id := "isinstance") (kc_isi K) (by rfl) T.z_isinstance (by decide +kernel) (pa_cons (pv 1) (pa_cons (pe_bltn (v := .ty "int") (by rfl) T.z_int (by decide +kernel) rfl) pa_nil))))) pa_nil))))))))
(pss_one (ps_ret pe_bl))
pss_nil)
(pss_one (ps_ret (pe_chain op_le op_lt pe_int (pe_ix (kix_tup K) (pv 0) pe_int (fun _ _ => rfl)) (pe_ix (kix_tup K) (pv 0) pe_int (fun _ _ => rfl)))))), fun c hc => ?_⟩
  have e0 : EvR (tVar 0) (startD N_is_class [Dat K (datP c)]) (Dat K (.tuple [.int c.1, .int c.2])) := ev_var rfl
  refine q_ifF (et_or (et_not (et_B (ev_isTL (tx := tNil) e0))) fun _ => et_or (et_test (ev_neI (ev_cb (ea_cons e0 ea_nil) kb_lenT) ev_int)) fun _ => et_not (et_B (ev_cb (ea_cons ((ev_lcT0 (xs := [c.1, c.2]) (enc := .int) (fun _ => .bool true) e0 (by show 2 < sizeLine; decide) fun q _ =>
    ⟨_, _, gj_name, by simp, ev_cb (ea_cons (ev_var rfl) (ea_cons (ev_c (R := EqR (.ty "int")) fun _ => rfl) ea_nil)) (cb_isInt (i := q))⟩).cast (d' := .list (([c.1, c.2].map fun _ => true).map .bool)) rfl) ea_nil) cb_all))) rfl (sj_seqN ?_)
  refine sj_retD (ev_chain (i := 0) (j := c.1) (k := c.2) ev_int (ev_ixT e0 ev_int rfl) fun _ => ev_ixT e0 ev_int rfl) rfl ?_
  have h1 := hc.1
  have h2 := hc.2
  simp [h1, h2]
structure ApPre (a b : Cl) : Prop where
  ga : good a
  gb : good b
  e : a.2 = b.2
  ne : a ≠ b
def sp_are_apart (K : PySem.W.Frag) : Sp := spOf (argsC2 K) (fun y => ApPre y.1 y.2) (fun _ => Dat K (.bool true))
theorem ok_are_apart (T : TX K mg) : FnOk P w K mg base CX0 1 T.f_are_apart T.d_are_apart p_are_apart (sp_are_apart K) := by
  refine fn_ok T.F_are_apart sc_are_apart (fun _ => rfl) fun cdv A outer s H E hr => ⟨_, (pss_cons (ps_set (i := 2) sc_are_apart.nd rfl (Or.inl rfl) (pe_callBfun cr_gcd (by rfl) T.m_gcd (pa_cons (pe_ix (kix_tup K) (pv 0) pe_int (fun _ _ => rfl)) (pa_cons (pe_ix (kix_tup K) (pv 1) pe_int (fun _ _ => rfl)) pa_nil))))
(pss_one (ps_ret (pe_cmpR op_ne (pe_op op_mod (pe_ix (kix_tup K) (pv 0) pe_int (fun _ _ => rfl)) (pv 2)) (pe_op op_mod (pe_ix (kix_tup K) (pv 1) pe_int (fun _ _ => rfl)) (pv 2)) (nomark _))))), fun y hy => ?_⟩
  obtain ⟨⟨r, m⟩, ⟨q, n⟩⟩ := y
  obtain ⟨ga, gb, e, ne⟩ := hy
  simp only [good] at ga gb e ne
  subst e
  have m0 : 0 < m := by omega
  have eg : ((Nat.gcd m.natAbs m.natAbs : Nat) : Int) = m := by
    rw [Nat.gcd_self]
    omega
  refine q_asg ((ev_cb (ea_cons (ev_ixT (ds := [.int r, .int m]) (ev_var rfl) ev_int rfl) (ea_cons (ev_ixT (ds := [.int q, .int m]) (ev_var rfl) ev_int rfl) ea_nil)) cb_gcd).cast (congrArg PyData.int eg)) ?_
  refine sj_retD (ev_neI (ev_mod (i := r) (ev_ixT (ds := [.int r, .int m]) (ev_var rfl) ev_int rfl) (ev_var rfl) m0) (ev_mod (i := q) (ev_ixT (ds := [.int q, .int m]) (ev_var rfl) ev_int rfl) (ev_var rfl) m0)) rfl ?_
  rw [Int.emod_eq_of_lt ga.1 ga.2, Int.emod_eq_of_lt gb.1 gb.2]
  have h : ¬ r = q := fun z => ne (by rw [z])
  simp [h]
end CU
/-! F6: times. -/
namespace CU
open PySem PySem.Spec PyProof.Rows L2 DL
variable {P : Program} {w : World} {K : PySem.W.Frag} {mg : Str → Option Value} {base : Heap}
def timF (K : PySem.W.Frag) (st : Int) (cs : List Cl) : List (Str × RR) := [("start", Dat K (.int st)), ("end", Dat K .none), ("classes", Dat K (clsD cs))]
def TimR (K : PySem.W.Frag) (C : Addr) (st : Int) (cs : List Cl) : RR := InsR C (timF K st cs)
structure TimA where
  st : Int
  cs : List Cl
structure TimOk (y : TimA) : Prop where
  s0 : 0 ≤ y.st
  len : y.cs.length ≤ 64
  gd : ∀ c ∈ y.cs, good c
  eqm : ∀ a ∈ y.cs, ∀ b ∈ y.cs, a.2 = b.2
  nd : y.cs.Nodup
def argsTi (K : PySem.W.Frag) (y : TimA) : List RR := [Dat K (.int y.st), Dat K .none, Dat K (clsD y.cs)]
def sp_Times_init (K : PySem.W.Frag) (C : Addr) : Sp := spInit C (argsTi K) TimOk (fun y => timF K y.st (orderF y.cs))
theorem cut_from (ds : List PyData) (i : Nat) (h : i ≤ ds.length) : DL.cutD ds (some (i : Int)) none = ds.drop i := by
  unfold DL.cutD
  rw [HT.sIx_none, HT.sIx_nat, Nat.min_eq_left h]
  refine List.take_of_length_le ?_
  rw [List.length_drop]
  omega
theorem ok_Times_init (T : TX K mg) : FnOk P w K mg base CX0 2 T.f_Times_init T.d_Times_init p_Times_init (sp_Times_init K T.C_Times) := by
  refine fn_init T.F_Times_init sc_Times_init (fun _ => rfl) (by decide) fun cdv A outer s H E hr => ⟨_, (pss_cons (ps_if (PW.pt (pw_or (pt_cmpR op_lt (pv 1) pe_int (nomark _)) (pw_or (PW.pt (pw_and (pt_cmpR op_notN (pv 2) pe_non (nomark _)) (pw_and1 (pt_cmpR op_lt (pv 2) pe_int (nomark _))))) (pw_or1 (pt_cmpR op_gt (pe_callB (id := "len") (kc_len K) (by rfl) T.z_len (by decide +kernel) (pa_cons (pv 3) pa_nil)) (pe_glob (v := .int 64) rfl T.m_MOST_CLASSES ⟨_, rfl⟩) (nomark _))))))
(pss_one ps_never)
pss_nil)
(pss_cons (ps_set (i := 4) sc_Times_init.nd rfl (Or.inl rfl) (pe_lst pa_nil))
(pss_cons (ps_for PassesOwn.never rfl (kpi_list K rfl (pv 3)) (pg_name (i := 5) sc_Times_init.nd rfl (Or.inr rfl))
(pss_cons (ps_if (pt_not (pt_val (pe_call (ok_is_class T) (hr.mono (by decide)) (by rfl) T.g_is_class T.F_is_class.kp T.b_is_class .nil pass0 (pa_cons (pv 5) pa_nil))))
(pss_one ps_never)
pss_nil)
(pss_one (kps_app K rfl (pv 4) (pa_cons (pe_tup (pa_cons (pe_ix (kix_tup K) (pv 5) pe_int (fun _ _ => rfl)) (pa_cons (pe_ix (kix_tup K) (pv 5) pe_int (fun _ _ => rfl)) pa_nil))) pa_nil)))))
(pss_cons (kps_fld K rfl (pv 0) (pv 1) rfl)
(pss_cons (kps_fld K rfl (pv 0) (pv 2) rfl)
(pss_cons (kps_fld K rfl (pv 0) (pe_lc (own := [("modulus", 6), ("remainder", 7)]) (by rfl) sc_Times_init.nd (kpi_list K rfl (pe_callB (id := "sorted") (kc_sorted K rfl hr.units) (by rfl) T.z_sorted (by decide +kernel) (pa_cons (pv 4) pa_nil))) (blkOk_by (N := N_Times_init) (sc := defScope s_Times_init) (by decide +kernel)) (fun _ _ _ _ _ => kpg_tup (n := 2) K rfl rfl (pgs_cons (pg_name (i := 6) sc_Times_init.nd rfl (Or.inl rfl)) (pgs_cons (pg_name (i := 7) sc_Times_init.nd rfl (Or.inl rfl)) pgs_nil))) (fun _ _ _ _ _ => pts_nil) (fun _ _ _ _ _ => (pe_tup (pa_cons (pv 7) (pa_cons (pv 6) pa_nil))))) rfl)
(pss_one (ps_for PassesOwn.never rfl (kpi_enum K rfl (by rfl) T.z_enumerate (pa_cons (kpe_fld K rfl (pv 0) rfl) pa_nil)) (kpg_tup (n := 2) K rfl rfl (pgs_cons (pg_name (i := 8) sc_Times_init.nd rfl (Or.inl rfl)) (pgs_cons (pg_name (i := 5) sc_Times_init.nd rfl (Or.inr rfl)) pgs_nil)))
(pss_one (ps_if (pt_not (pt_val (pe_callB (id := "all") (kc_all K rfl rfl) (by rfl) T.z_all (by decide +kernel) (pa_cons (pe_lc (own := [("other", 9)]) (by rfl) sc_Times_init.nd (kpi_list K rfl (pe_slice (ksl_list K) (kpe_fld K rfl (pv 0) rfl) (po_some (pe_op op_add (pv 8) pe_int)) po_none)) (blkOk_by (N := N_Times_init) (sc := defScope s_Times_init) (by decide +kernel)) (fun _ _ _ _ _ => pg_name (i := 9) sc_Times_init.nd rfl (Or.inl rfl)) (fun _ _ _ _ _ => pts_nil) (fun _ _ _ _ _ => (pe_call (ok_are_apart T) (hr.mono (by decide)) (by rfl) T.g_are_apart T.F_are_apart.kp T.b_are_apart .nil pass0 (pa_cons (pv 5) (pa_cons (pv 9) pa_nil))))) pa_nil))))
(pss_one ps_never)
pss_nil)))))))))), fun y hy p => ?_⟩
  obtain ⟨st, cs⟩ := y
  obtain ⟨s0, len, gd, eqm, nd⟩ := hy
  simp only at s0 len gd eqm nd
  have hz : cs.length < sizeLine := Nat.lt_of_le_of_lt len (by decide)
  refine q_ifF (b := decide (st < 0) || (((!isNoneD .none) && false) || decide (64 < ((cs.map datP).length : Int)))) (et_or (et_test (ev_lt (ev_var rfl) ev_int)) fun _ => et_or (et_and (et_test (ev_notN (ev_var rfl) ev_non)) fun h => by cases h) fun _ => et_test (ev_gt (ev_cb (ea_cons (ev_var rfl) ea_nil) kb_lenL) ev_int)) (by simp [isNoneD]; omega) (sj_seqN ?_)
  refine q_new (K := K) ?_
  refine sj_seq (M := fun Δ' => ∃ s5, Δ' = [.opn (OIns T.C_Times p []), .val (Dat K (.int st)), .val (Dat K .none), .val (Dat K (clsD cs)), .opn (OLst K ((cs.map swapC).map datP)), s5, .no, .no, .no, .no])
    (sj_forL (ds := cs.map datP) (ev_var rfl) (fun i Δ' => ∃ s5, Δ' = [.opn (OIns T.C_Times p []), .val (Dat K (.int st)), .val (Dat K .none), .val (Dat K (clsD cs)), .opn (OLst K (((cs.take i).map swapC).map datP)), s5, .no, .no, .no, .no]) ⟨_, rfl⟩ (fun i d Δ' hd hP => ?_) (fun Δ' hP => ?_)) ?_
  · obtain ⟨s5, rfl⟩ := hP
    obtain ⟨c, hc, rfl⟩ := map_get hd
    refine ⟨_, _, gj_name, ?_⟩
    refine q_ifF (et_not (et_B (ev_call c (ea_cons (ev_var rfl) ea_nil) (gd c (List.mem_of_getElem? hc))))) rfl (sj_seqN ?_)
    refine sj_app rfl (ev_tup (ds := [.int c.2, .int c.1]) (ea_cons (ev_ixT (ds := [.int c.1, .int c.2]) (ev_var rfl) ev_int rfl) (ea_cons (ev_ixT (ds := [.int c.1, .int c.2]) (ev_var rfl) ev_int rfl) ea_nil)) (by show 2 ≤ sizeLine; decide)) ?_ ?_
    · rw [List.length_map, List.length_map, List.length_take]
      omega
    · dsimp only
      rw [List.take_add_one, hc, List.map_append, List.map_append]
      exact ⟨_, rfl⟩
  · obtain ⟨s5, rfl⟩ := hP
    rw [List.length_map, List.take_length]
    exact ⟨_, rfl⟩
  · rintro Δ' ⟨s5, rfl⟩
    refine q_fld rfl (ev_var rfl) T.c_Times T.n_Times_start rfl (by simp) ?_
    refine q_fld rfl (ev_var rfl) T.c_Times T.n_Times_end rfl (by simp) ?_
    refine sj_frz (i := 4) rfl ?_
    have hz2 : (sortP (cs.map swapC)).length < sizeLine := by
      rw [(sortP_perm _).length_eq, List.length_map]
      exact hz
    refine q_fld rfl ((ev_lcL0 (xs := sortP (cs.map swapC)) (enc := datP) (fun k => datP (swapC k)) (ev_cb (ea_cons (ev_var rfl) ea_nil) cb_sortP) hz2 fun k _ => ⟨_, _, gj_tup (ds := [.int k.1, .int k.2]) rfl (gjs_cons gj_name (gjs_cons gj_name gjs_nil)), by simp, ev_tup (ds := [.int k.2, .int k.1]) (ea_cons (ev_var rfl) (ea_cons (ev_var rfl) ea_nil)) (by show 2 ≤ sizeLine; decide)⟩).cast (d' := clsD (orderF cs)) (by
      unfold orderF clsD
      rw [List.map_map]
      rfl)) T.c_Times T.n_Times_classes rfl (by simp) ?_
    refine sj_frzI (i := 0) (C := T.C_Times) (p := p) (fs := timF K st (orderF cs)) rfl ?_
    have pm := orderF_perm cs
    have nd' : (orderF cs).Nodup := pm.nodup_iff.mpr nd
    have hlen' : (orderF cs).length = cs.length := pm.length_eq
    refine sj_forEL (ds := (orderF cs).map datP) (ea_cons (ev_fld ((ev_var rfl).sub insAt_ins) T.c_Times T.n_Times_classes rfl) ea_nil) (fun i Δ' => ∃ s4 s5 s6 s7 s8 s9, Δ' = [.val (InsAt T.C_Times p (timF K st (orderF cs))), .val (Dat K (.int st)), .val (Dat K .none), .val (Dat K (clsD cs)), s4, s5, s6, s7, s8, s9]) ⟨_, _, _, _, _, _, rfl⟩ (fun i d Δ' hd hP => ?_) (fun Δ' hP => ?_)
    · obtain ⟨s4, s5, s6, s7, s8, s9, rfl⟩ := hP
      obtain ⟨c, hc, rfl⟩ := map_get hd
      have hi : i < (orderF cs).length := (List.getElem?_eq_some_iff.mp hc).1
      have ec : (orderF cs)[i] = c := (List.getElem?_eq_some_iff.mp hc).2
      refine ⟨_, _, gj_tup (ds := [.int (i : Int), datP c]) rfl (gjs_cons gj_name (gjs_cons gj_name gjs_nil)), ?_⟩
      refine sj_ifF (et_not (et_B (ev_cb (ea_cons ((ev_lcL0 (xs := (orderF cs).drop (i + 1)) (enc := datP) (fun _ => .bool true) ((ev_slL (ev_fld ((ev_var rfl).sub insAt_ins) T.c_Times T.n_Times_classes rfl) (eo_some (ev_add (ev_var rfl) ev_int)) eo_none).cast (congrArg PyData.list ?_)) ?_ fun q hq =>
        ⟨_, _, gj_name, by simp, ev_call ((c, q) : Cl × Cl) (ea_cons (ev_var rfl) (ea_cons (ev_var rfl) ea_nil)) ?_⟩).cast (d' := .list (((((orderF cs).drop (i + 1)).map fun _ => true)).map .bool)) (by rw [List.map_map]; rfl)) ea_nil) cb_all))) (by rw [List.all_map]; exact congrArg not (List.all_eq_true.mpr fun _ _ => rfl)) (sj_next ⟨_, _, _, _, _, _, rfl⟩)
      · have e := cut_from ((orderF cs).map datP) (i + 1) (by rw [List.length_map]; omega)
        rw [← List.map_drop] at e
        exact e
      · rw [List.length_drop]
        omega
      · have mq : q ∈ cs := pm.mem_iff.mp (List.mem_of_mem_drop hq)
        have mc : c ∈ cs := pm.mem_iff.mp (List.mem_of_getElem? hc)
        refine ⟨gd c mc, gd q mq, eqm c mc q mq, fun e => ?_⟩
        obtain ⟨j, hj, ej⟩ := List.getElem_of_mem hq
        rw [List.getElem_drop] at ej
        have z : (orderF cs)[i] = (orderF cs)[i + 1 + j]'(by rw [List.length_drop] at hj; omega) := by rw [ec, ej]; exact e
        have := (List.getElem_inj nd').mp z
        omega
    · obtain ⟨s4, s5, s6, s7, s8, s9, rfl⟩ := hP
      rfl
/-! ### is_within, next_from -/
structure NxA where
  st : Int
  cs : List Cl
  m : Int
  n : Nat
  Pr : Int → Prop
def argsNx (K : PySem.W.Frag) (C : Addr) (y : NxA) : List RR := [TimR K C y.st y.cs, Dat K (.int y.m)]
def sp_is_within (K : PySem.W.Frag) (C : Addr) : Sp := spOf (argsNx K C) (fun y => y.st ≤ y.m) (fun _ => Dat K (.bool true))
theorem ok_Times_is_within (T : TX K mg) : FnOk P w K mg base CX0 1 T.f_Times_is_within T.d_Times_is_within p_Times_is_within (sp_is_within K T.C_Times) := by
  refine fn_ok T.F_Times_is_within sc_Times_is_within (fun _ => rfl) fun cdv A outer s H E hr => ⟨_, (pss_one (ps_ret (pe_and (pe_cmpR op_ge (pv 1) (kpe_fld K rfl (pv 0) rfl) (nomark _)) (pe_one (pe_or (pe_cmpR op_isN (kpe_fld K rfl (pv 0) rfl) pe_non (nomark _)) (pe_one (pe_cmpR op_le (pv 1) (kpe_fld K rfl (pv 0) rfl) (nomark _)))))))), fun y hy => ?_⟩
  refine sj_retD (ev_andV (ev_ge (ev_var rfl) (ev_fld (ev_var rfl) T.c_Times T.n_Times_start rfl)) fun _ => ev_orV (b := false) (ev_isN (ev_fld (ev_var rfl) T.c_Times T.n_Times_end rfl) ev_non) fun h => by cases h) rfl ?_
  rw [decide_eq_true hy]
  rfl
def optI : Option Int → PyData
  | none => .none
  | some i => .int i
def maxI (i j : Int) : Int := if j > i then j else i
noncomputable def nxR (y : NxA) : Option Int := nxt y.Pr (maxI y.m y.st)
def sp_next_from (K : PySem.W.Frag) (C : Addr) : Sp := spOf (argsNx K C) (fun y => y.n ≤ 64 ∧ ClsOk y.n y.cs y.Pr) (fun y => Dat K (optI (nxR y)))
theorem exMin : ∀ l : List Int, l ≠ [] → ∃ m, IsMin m l
  | [], h => absurd rfl h
  | [a], _ => ⟨a, by simp, by simp⟩
  | a :: b :: l, _ => by
    obtain ⟨m, h1, h2⟩ := exMin (b :: l) (by simp)
    rcases Int.le_total a m with z | z
    · refine ⟨a, by simp, fun y hy => ?_⟩
      rcases List.mem_cons.mp hy with e | e
      · omega
      · have := h2 y e
        omega
    · refine ⟨m, List.mem_cons_of_mem _ h1, fun y hy => ?_⟩
      rcases List.mem_cons.mp hy with e | e
      · omega
      · exact h2 y e
theorem ok_Times_next_from (T : TX K mg) : FnOk P w K mg base CX0 2 T.f_Times_next_from T.d_Times_next_from p_Times_next_from (sp_next_from K T.C_Times) := by
  refine fn_ok T.F_Times_next_from sc_Times_next_from (fun _ => rfl) fun cdv A outer s H E hr => ⟨_, (pss_cons (ps_set (i := 2) sc_Times_next_from.nd rfl (Or.inr rfl) (pe_callB (id := "max") (call_max2 rfl) (by rfl) T.z_max (by decide +kernel) (pa_cons (pv 1) (pa_cons (kpe_fld K rfl (pv 0) rfl) pa_nil))))
(pss_cons (ps_setLc (i := 3) (own := [("remainder", 4), ("modulus", 5)]) (by rfl) sc_Times_next_from.nd rfl rfl (sw_true rfl rfl rfl (by decide +kernel)) (kpi_list K rfl (kpe_fld K rfl (pv 0) rfl)) (blkOk_by (N := N_Times_next_from) (sc := defScope s_Times_next_from) (by decide +kernel)) (fun _ _ _ _ _ => kpg_tup (n := 2) K rfl rfl (pgs_cons (pg_name (i := 4) sc_Times_next_from.nd rfl (Or.inl rfl)) (pgs_cons (pg_name (i := 5) sc_Times_next_from.nd rfl (Or.inl rfl)) pgs_nil))) (fun _ _ _ _ _ => pts_nil) (fun _ _ _ _ _ => (pe_op op_add (pv 2) (pe_op op_mod (pe_op op_sub (pv 4) (pv 2)) (pv 5)))))
(pss_cons (ps_if (PW.pt (pw_or (pt_not (kpt_truth K rfl (pv 3) (by intro _; rfl))) (pw_or1 (pt_not (pt_val (pe_meth (pv 0) T.c_Times T.M_Times_is_within (ok_Times_is_within T) (hr.mono (by decide)) T.b_Times_is_within .nil pass0 (pa_cons (pe_callB (id := "min") (kc_min K rfl rfl) (by rfl) T.z_min (by decide +kernel) (pa_cons (pv 3) pa_nil)) pa_nil)))))))
(pss_one (ps_ret pe_non))
pss_nil)
(pss_one (ps_ret (pe_callB (id := "min") (kc_min K rfl rfl) (by rfl) T.z_min (by decide +kernel) (pa_cons (pv 3) pa_nil))))))), fun y hy => ?_⟩
  obtain ⟨st, cs, m, n, Pr⟩ := y
  obtain ⟨n64, hc⟩ := hy
  simp only at n64 hc
  have len : cs.length ≤ 64 := Nat.le_trans hc.len n64
  have hz : cs.length < sizeLine := Nat.lt_of_le_of_lt len (by decide)
  show SJ _ _ (retA (Dat K (optI (nxt Pr (maxI m st)))))
  refine q_asg (R := Dat K (.int (maxI m st))) (ev_cb (ea_cons (ev_var rfl) (ea_cons (ev_fld (ev_var rfl) T.c_Times T.n_Times_start rfl) ea_nil)) cb_max2) ?_
  generalize hg : maxI m st = f
  have hf : st ≤ f := by
    unfold maxI at hg
    split at hg <;> omega
  refine q_asg (R := Dat K (.list ((cs.map (firstOf f)).map .int))) ((ev_lcL0 (xs := cs) (enc := datP) (fun c => .int (firstOf f c)) (ev_fld (ev_var rfl) T.c_Times T.n_Times_classes rfl) hz fun c h => ⟨_, _, gj_tup (ds := [.int c.1, .int c.2]) rfl (gjs_cons gj_name (gjs_cons gj_name gjs_nil)), by simp, ev_add (ev_var rfl) (ev_mod (ev_sub (ev_var rfl) (ev_var rfl)) (ev_var rfl) (by have := (hc.gd c h).1; have := (hc.gd c h).2; omega))⟩).cast (by rw [List.map_map]; rfl)) ?_
  by_cases he : cs = []
  · subst he
    refine q_ifT (et_or (b := false) (et_not (kt_truL (ev_var rfl))) fun h => by cases h) rfl (sj_seqR (sj_retD ev_non rfl ?_))
    rw [next_no hc f rfl]
    rfl
  · obtain ⟨k, hk⟩ := exMin (cs.map (firstOf f)) (by simpa using he)
    obtain ⟨c, hcm, hce⟩ := List.mem_map.mp hk.1
    have hfk := (first_ok (lo := f) (hc.gd c hcm)).1
    rw [hce] at hfk
    refine q_ifF (et_or (et_not (kt_truL (ev_var rfl))) fun _ => et_not (et_B (ev_meth (⟨st, cs, k, n, Pr⟩ : NxA) (ev_var rfl) (hasM_ins rfl) (ea_cons (ev_cb (ea_cons (ev_var rfl) ea_nil) (cb_min hk)) ea_nil) rfl (Int.le_trans hf hfk)))) ?_ (sj_seqN (sj_retD (ev_cb (ea_cons (ev_var rfl) ea_nil) (cb_min hk)) rfl ?_))
    · simp [he]
    · rw [next_of hc f k hk.1 hk.2]
      rfl
end CU
/-! F7: balls, the times of a point, of a meeting. -/
namespace CU
open PySem PySem.Spec PyProof.Rows L2 DL
variable {P : Program} {w : World} {K : PySem.W.Frag} {mg : Str → Option Value} {base : Heap}
theorem ev_inStr {ta tb : TE} {Δ : List Slot} {x y : Str} (ha : EvR ta Δ (Dat K (.str x))) (hb : EvR tb Δ (Dat K (.str y))) :
    EvR (tOp (fun x y H Q => ∃ i j, x = .str i ∧ y = .str j ∧ Q (.bl (!(Builtin.Str.occurrences j i 0 j.length 1).isEmpty)) H) ta tb) Δ (Dat K (.bool (!(Builtin.Str.occurrences y x 0 y.length 1).isEmpty))) := ev_op ha hb fun G H u v e p1 p2 Q q => by
  rw [p1.isStr, p2.isStr]
  exact ⟨x, y, rfl, rfl, q _ G H (Gr.refl e) (.bl _)⟩
theorem ev_ixS {ta tb : TE} {Δ : List Slot} {x : Str} {i : Int} {c : Nat} (ha : EvR ta Δ (Dat K (.str x))) (hb : EvR tb Δ (Dat K (.int i))) (hz : x.length ≤ sizeLine) (hc : atI x.cps.toList i = some c) : EvR (tOp rIxS ta tb) Δ (Dat K (.str ⟨#[c]⟩)) := ev_op ha hb fun G H u v e p1 p2 Q q =>
  ⟨x, i, c, p1.isStr, p2.isInt, hz, hc, q _ G H (Gr.refl e) (.str _)⟩
def NameOk (z : Str) : Prop := z = "aim" ∨ z = "red"
def abc : Str := "abcdefghijklmnopqrstuvwxyz0123456789"
def inAbc (c : Nat) : Bool := !(Builtin.Str.occurrences abc ⟨#[c]⟩ 0 abc.length 1).isEmpty
def inDig (z : Str) : Bool := !(Builtin.Str.occurrences ("0123456789" : Str) z 0 ("0123456789" : Str).length 1).isEmpty
structure NameFit (z : Str) : Prop where
  len : z.length ≤ sizeLine
  siz : z.cps.size < sizeLine
  l1 : 1 ≤ (z.length : Int)
  l2 : (z.length : Int) ≤ 12
  fst : ∃ c, atI z.cps.toList 0 = some c ∧ inDig ⟨#[c]⟩ = false
  all : (z.cps.toList.map inAbc).all id = true
theorem fit_aim : NameFit "aim" := ⟨by decide, by decide, by decide, by decide, ⟨97, by decide, by decide +kernel⟩, by decide +kernel⟩
theorem fit_red : NameFit "red" := ⟨by decide, by decide, by decide, by decide, ⟨114, by decide, by decide +kernel⟩, by decide +kernel⟩
theorem NameOk.fit {z : Str} (h : NameOk z) : NameFit z := by
  rcases h with rfl | rfl
  · exact fit_aim
  · exact fit_red
def sp_is_name (K : PySem.W.Frag) : Sp := spOf (fun z : Str => [Dat K (.str z)]) NameFit (fun _ => Dat K (.bool true))
theorem ok_is_name (T : TX K mg) : FnOk P w K mg base CX0 1 T.f_is_name T.d_is_name p_is_name (sp_is_name K) := by
  refine fn_ok T.F_is_name sc_is_name (fun _ => rfl) fun cdv A outer s H E hr => ⟨_, (pss_cons (ps_if (PW.pt (pw_or (pt_not (pt_chain op_le op_le pe_int (pe_callB (id := "len") call_len_str (by rfl) T.z_len (by decide +kernel) (pa_cons (pv 0) pa_nil)) (pe_glob (v := .int 12) rfl T.m_MOST_NAME_CHARS ⟨_, rfl⟩))) (pw_or1 (pt_cmpR op_in_str (pe_ix ix_str (pv 0) pe_int (fun _ _ => rfl)) pe_str (by rfl)))))
(pss_one (ps_ret pe_bl))
pss_nil)
(pss_one (ps_ret (pe_callB (id := "all") (kc_all K rfl rfl) (by rfl) T.z_all (by decide +kernel) (pa_cons (pe_lc (own := [("char", 1)]) (by rfl) sc_is_name.nd (pi_str (pv 0)) (blkOk_by (N := N_is_name) (sc := defScope s_is_name) (by decide +kernel)) (fun _ _ _ _ _ => pg_name (i := 1) sc_is_name.nd rfl (Or.inl rfl)) (fun _ _ _ _ _ => pts_nil) (fun _ _ _ _ _ => (pe_cmpR op_in_str (pv 1) (pe_glob (v := .str "abcdefghijklmnopqrstuvwxyz0123456789") rfl T.m_NAME_CHARS ⟨_, rfl⟩) (by rfl)))) pa_nil))))), fun z hz => ?_⟩
  obtain ⟨c, hc, hd⟩ := hz.fst
  have l1 := hz.l1
  have l2 := hz.l2
  refine q_ifF (et_or (et_not (et_test (ev_chain ev_int (ev_cb (ea_cons (ev_var rfl) ea_nil) (cb_len_str hz.len)) fun _ => ev_int))) fun _ => et_test (ev_inStr (ev_ixS (ev_var rfl) ev_int hz.len hc) ev_str)) ?_ (sj_seqN ?_)
  · show (!(decide (1 ≤ (z.length : Int)) && decide ((z.length : Int) ≤ 12)) || inDig ⟨#[c]⟩) = false
    rw [hd]
    simp [l1, l2]
  · refine sj_retD (ev_cb (ea_cons ((ev_lcS (fun c => .bool (inAbc c)) (ev_var rfl) hz.siz fun i c _ => ⟨_, _, gj_name, by simp, ev_inStr (ev_var rfl) ev_str⟩).cast (d' := .list ((z.cps.toList.map inAbc).map .bool)) (by rw [List.map_map]; rfl)) ea_nil) cb_all) rfl ?_
    rw [hz.all]
/-! ### balls -/
structure Bal where
  n : Str
  x : Int
  y : Int
  dx : Int
  dy : Int
  m : Int
def ballD (b : Bal) : PyData := .tuple [.str b.n, .int b.x, .int b.y, .int b.dx, .int b.dy, .int b.m]
structure TbOk (w h : Int) : Prop where
  w1 : 1 ≤ w
  w2 : w ≤ 1000000000000000000000000000000
  h1 : 1 ≤ h
  h2 : h ≤ 1000000000000000000000000000000
structure BalOk (w h : Int) (b : Bal) : Prop where
  nm : NameOk b.n
  on : onT w h (b.x, b.y) = true
  m0 : 0 ≤ b.m
  m1 : b.m ≤ 1000000000000000000000000000000
  hx : is1 b.dx
  hy : is1 b.dy
  nz : (b.dx, b.dy) ≠ (0, 0)
structure BalA where
  w : Int
  h : Int
  ps : List Pt
  b : Bal
def argsTB (K : PySem.W.Frag) (C : Addr) (y : BalA) : List RR := [TabR K C y.w y.h y.ps, Dat K (ballD y.b)]
theorem is1_mem {d : Int} (h : is1 d) : decide (d ∈ [(-1 : Int), 0, 1]) = true := by
  rcases h with rfl | rfl | rfl <;> rfl
def sp_is_ball (K : PySem.W.Frag) (C : Addr) : Sp := spOf (argsTB K C) (fun y => BalOk y.w y.h y.b) (fun _ => Dat K (.bool true))
theorem ok_is_ball (T : TX K mg) : FnOk P w K mg base CX0 2 T.f_is_ball T.d_is_ball p_is_ball (sp_is_ball K T.C_Table) := by
  refine fn_ok T.F_is_ball sc_is_ball (fun _ => rfl) fun cdv A outer s H E hr => ⟨_, (pss_cons (ps_if (PW.pt (pw_or (pt_cmpR op_ne (pe_callB (id := "len") (kc_len K) (by rfl) T.z_len (by decide +kernel) (pa_cons (pv 1) pa_nil)) pe_int (nomark _)) (pw_or1 (pt_not (pt_val (pe_call (ok_is_name T) (hr.mono (by decide)) (by rfl) T.g_is_name T.F_is_name.kp T.b_is_name .nil pass0 (pa_cons (pe_ix (kix_tup K) (pv 1) pe_int (fun _ _ => rfl)) pa_nil)))))))
(pss_one (ps_ret pe_bl))
pss_nil)
(pss_cons (ps_asg (pv 1) (kpg_tup (n := 6) K rfl rfl (pgs_cons (pg_name (i := 2) sc_is_ball.nd rfl (Or.inl rfl)) (pgs_cons (pg_name (i := 3) sc_is_ball.nd rfl (Or.inl rfl)) (pgs_cons (pg_name (i := 4) sc_is_ball.nd rfl (Or.inl rfl)) (pgs_cons (pg_name (i := 5) sc_is_ball.nd rfl (Or.inl rfl)) (pgs_cons (pg_name (i := 6) sc_is_ball.nd rfl (Or.inl rfl)) (pgs_cons (pg_name (i := 7) sc_is_ball.nd rfl (Or.inl rfl)) pgs_nil))))))))
(pss_cons (ps_if (PW.pt (pw_or (pt_not (pt_val (pe_meth (pv 0) T.c_Table T.M_Table_is_point (ok_Table_is_point T) (hr.mono (by decide)) T.b_Table_is_point .nil pass0 (pa_cons (pe_tup (pa_cons (pv 3) (pa_cons (pv 4) pa_nil))) pa_nil)))) (pw_or1 (pt_not (pt_chain op_le op_le pe_int (pv 7) (pe_glob (v := .int 1000000000000000000000000000000) rfl T.m_MOST ⟨_, rfl⟩))))))
(pss_one (ps_ret pe_bl))
pss_nil)
(pss_one (ps_ret (pe_and (pe_cmpR (kop_in_seq K) (pv 5) (pe_tup (pa_cons (pe_un un_neg pe_int) (pa_cons pe_int (pa_cons pe_int pa_nil)))) (by rfl)) (pe_and (pe_cmpR (kop_in_seq K) (pv 6) (pe_tup (pa_cons (pe_un un_neg pe_int) (pa_cons pe_int (pa_cons pe_int pa_nil)))) (by rfl)) (pe_one (pe_cmpR (kop_neD K rfl hr.units) (pe_tup (pa_cons (pv 5) (pa_cons (pv 6) pa_nil))) (pe_tup (pa_cons pe_int (pa_cons pe_int pa_nil))) (nomark _)))))))))), fun y hy => ?_⟩
  obtain ⟨tw, th, ps, ⟨nm, x, y, dx, dy, m⟩⟩ := y
  obtain ⟨hn, on, m0, m1, hx, hy, nz⟩ := hy
  simp only at hn on m0 m1 hx hy nz
  have eb : ∀ {Δ : List Slot}, Δ[1]? = some (.val (Dat K (.tuple [.str nm, .int x, .int y, .int dx, .int dy, .int m]))) → EvR (tVar 1) Δ (Dat K (.tuple [.str nm, .int x, .int y, .int dx, .int dy, .int m])) := fun h => ev_var h
  have v {Δ : List Slot} {i : Nat} {z : Int} (h : Δ[i]? = some (.val (Dat K (.int z)))) : EvR (tVar i) Δ (Dat K (.int z)) := ev_var h
  refine q_ifF (et_or (et_test (ev_neI (ev_cb (ea_cons (eb rfl) ea_nil) kb_lenT) ev_int)) fun _ => et_not (et_B (ev_call nm (ea_cons (ev_ixT (eb rfl) ev_int rfl) ea_nil) hn.fit))) rfl (sj_seqN ?_)
  refine q_asgG (eb rfl) (gj_tup rfl (gjs_cons gj_name (gjs_cons gj_name (gjs_cons gj_name (gjs_cons gj_name (gjs_cons gj_name (gjs_cons gj_name gjs_nil))))))) ?_
  refine q_ifF (et_or (et_not (et_B (ev_meth (⟨tw, th, ps, (x, y)⟩ : TabA) (ev_var rfl) (hasM_ins rfl) (ea_cons (ev_tup (ds := [.int x, .int y]) (ea_cons (v rfl) (ea_cons (v rfl) ea_nil)) (by show 2 ≤ sizeLine; decide)) ea_nil) rfl trivial))) fun _ => et_not (et_test (ev_chain ev_int (v rfl) fun _ => ev_int))) ?_ (sj_seqN ?_)
  · show (!(onT tw th (x, y)) || !(decide (0 ≤ m) && decide (m ≤ 1000000000000000000000000000000))) = false
    rw [on, decide_eq_true m0, decide_eq_true m1]
    rfl
  · have e3 : ∀ {Δ : List Slot}, EvR (tTup (tCons (tUn (rU fun i => .int (-i)) (tC (.int 1))) (tCons (tC (.int 0)) (tCons (tC (.int 1)) tNil)))) Δ (Dat K (.tuple ([(-1 : Int), 0, 1].map .int))) := ev_tup (ds := [.int (-1), .int 0, .int 1]) (ea_cons (ev_neg ev_int) (ea_cons ev_int (ea_cons ev_int ea_nil))) (by show 3 ≤ sizeLine; decide)
    refine sj_retD (ev_andV (ev_inI (v rfl) e3) fun _ => ev_andV (ev_inI (v rfl) e3) fun _ => ev_neD (d := datP (dx, dy)) (d' := datP (0, 0)) (ev_tup (ds := [.int dx, .int dy]) (ea_cons (v rfl) (ea_cons (v rfl) ea_nil)) (by show 2 ≤ sizeLine; decide)) (ev_tup (ds := [.int 0, .int 0]) (ea_cons ev_int (ea_cons ev_int ea_nil)) (by show 2 ≤ sizeLine; decide)) (shaped_datP _) (shaped_datP _)) rfl ?_
    rw [is1_mem hx, is1_mem hy, eqv_datP, decide_eq_false nz]
    rfl
def sp_check_ball (K : PySem.W.Frag) (C : Addr) : Sp := spOf (argsTB K C) (fun y => BalOk y.w y.h y.b) (fun _ => Dat K .none)
theorem ok_check_ball (T : TX K mg) : FnOk P w K mg base CX0 3 T.f_check_ball T.d_check_ball p_check_ball (sp_check_ball K T.C_Table) := by
  refine fn_ok T.F_check_ball sc_check_ball (fun _ => rfl) fun cdv A outer s H E hr => ⟨_, (pss_one (ps_if (pt_not (pt_val (pe_call (ok_is_ball T) (hr.mono (by decide)) (by rfl) T.g_is_ball T.F_is_ball.kp T.b_is_ball .nil pass0 (pa_cons (pv 0) (pa_cons (pv 1) pa_nil)))))
(pss_one ps_never)
pss_nil)), fun y hy => ?_⟩
  exact sj_ifF (et_not (et_B (ev_call y (ea_cons (ev_var rfl) (ea_cons (ev_var rfl) ea_nil)) hy))) rfl (sj_next fun _ => .non)
/-! ### the classes of two balls -/
structure TwoA where
  w : Int
  h : Int
  ps : List Pt
  b : Bal
  c : Bal
structure TwoOk (y : TwoA) : Prop where
  t : TbOk y.w y.h
  b : BalOk y.w y.h y.b
  c : BalOk y.w y.h y.c
def argsTBB (K : PySem.W.Frag) (C : Addr) (y : TwoA) : List RR := [TabR K C y.w y.h y.ps, Dat K (ballD y.b), Dat K (ballD y.c)]
def mxF (y : TwoA) : List Cl := meetF y.w (y.b.x - y.b.dx * y.b.m) y.b.dx (y.c.x - y.c.dx * y.c.m) y.c.dx
def myF (y : TwoA) : List Cl := meetF y.h (y.b.y - y.b.dy * y.b.m) y.b.dy (y.c.y - y.c.dy * y.c.m) y.c.dy
def sp_part_classes (K : PySem.W.Frag) (C : Addr) : Sp := spOf (argsTBB K C) TwoOk (fun y => Dat K (.tuple [clsD (mxF y), clsD (myF y)]))
theorem cmul1 {d z : Int} (h : is1 d) : CMul d z := by
  rcases h with rfl | rfl | rfl <;> exact Or.inl ⟨by decide, by decide⟩
theorem ok_part_classes (T : TX K mg) : FnOk P w K mg base CX0 3 T.f_part_classes T.d_part_classes p_part_classes (sp_part_classes K T.C_Table) := by
  refine fn_ok T.F_part_classes sc_part_classes (fun _ => rfl) fun cdv A outer s H E hr => ⟨_, (pss_cons (ps_set (i := 3) sc_part_classes.nd rfl (Or.inl rfl) (pe_lst pa_nil))
(pss_cons (ps_for PassesOwn.never rfl (kpi_tup K rfl (pe_tup (pa_cons (pe_tup (pa_cons pe_int (pa_cons (kpe_fld K rfl (pv 0) rfl) pa_nil))) (pa_cons (pe_tup (pa_cons pe_int (pa_cons (kpe_fld K rfl (pv 0) rfl) pa_nil))) pa_nil)))) (kpg_tup (n := 2) K rfl rfl (pgs_cons (pg_name (i := 4) sc_part_classes.nd rfl (Or.inl rfl)) (pgs_cons (pg_name (i := 5) sc_part_classes.nd rfl (Or.inl rfl)) pgs_nil)))
(pss_cons (ps_set (i := 6) sc_part_classes.nd rfl (Or.inl rfl) (pe_op op_sub (pe_ix (kix_tup K) (pv 1) (pv 4) (fun _ _ => rfl)) (pe_op op_mul (pe_ix (kix_tup K) (pv 1) (pe_op op_add (pv 4) pe_int) (fun _ _ => rfl)) (pe_ix (kix_tup K) (pv 1) pe_int (fun _ _ => rfl)))))
(pss_cons (ps_set (i := 7) sc_part_classes.nd rfl (Or.inl rfl) (pe_op op_sub (pe_ix (kix_tup K) (pv 2) (pv 4) (fun _ _ => rfl)) (pe_op op_mul (pe_ix (kix_tup K) (pv 2) (pe_op op_add (pv 4) pe_int) (fun _ _ => rfl)) (pe_ix (kix_tup K) (pv 2) pe_int (fun _ _ => rfl)))))
(pss_one (kps_app K rfl (pv 3) (pa_cons (pe_call (ok_meeting_classes T) (hr.mono (by decide)) (by rfl) T.g_meeting_classes T.F_meeting_classes.kp T.b_meeting_classes .nil pass0 (pa_cons (pv 5) (pa_cons (pv 6) (pa_cons (pe_ix (kix_tup K) (pv 1) (pe_op op_add (pv 4) pe_int) (fun _ _ => rfl)) (pa_cons (pv 7) (pa_cons (pe_ix (kix_tup K) (pv 2) (pe_op op_add (pv 4) pe_int) (fun _ _ => rfl)) pa_nil)))))) pa_nil))))))
(pss_one (ps_ret (pe_tup (pa_cons (pe_ix (kix_list K) (pv 3) pe_int (fun _ _ => rfl)) (pa_cons (pe_ix (kix_list K) (pv 3) pe_int (fun _ _ => rfl)) pa_nil))))))), fun y hy => ?_⟩
  obtain ⟨tw, th, ps, ⟨nb, bx, bY, bdx, bdy, bm⟩, ⟨nc, cx, cY, cdx, cdy, cm⟩⟩ := y
  obtain ⟨ht, hb, hc⟩ := hy
  have hbx := hb.hx
  have hby := hb.hy
  have hcx := hc.hx
  have hcy := hc.hy
  have w1 := ht.w1
  have h1 := ht.h1
  simp only at hbx hby hcx hcy w1 h1
  have v {Δ : List Slot} {i : Nat} {z : Int} (h : Δ[i]? = some (.val (Dat K (.int z)))) : EvR (tVar i) Δ (Dat K (.int z)) := ev_var h
  have eb : ∀ {Δ : List Slot}, Δ[1]? = some (.val (Dat K (.tuple [.str nb, .int bx, .int bY, .int bdx, .int bdy, .int bm]))) → EvR (tVar 1) Δ (Dat K (.tuple [.str nb, .int bx, .int bY, .int bdx, .int bdy, .int bm])) := fun h => ev_var h
  have ec : ∀ {Δ : List Slot}, Δ[2]? = some (.val (Dat K (.tuple [.str nc, .int cx, .int cY, .int cdx, .int cdy, .int cm]))) → EvR (tVar 2) Δ (Dat K (.tuple [.str nc, .int cx, .int cY, .int cdx, .int cdy, .int cm])) := fun h => ev_var h
  refine q_new (K := K) ?_
  have eW : ∀ {Δ : List Slot}, Δ[0]? = some (.val (TabR K T.C_Table tw th ps)) → EvR (tFld K (tVar 0) "width") Δ (Dat K (.int tw)) := fun h => ev_fld (ev_var h) T.c_Table T.n_Table_width rfl
  have eH : ∀ {Δ : List Slot}, Δ[0]? = some (.val (TabR K T.C_Table tw th ps)) → EvR (tFld K (tVar 0) "height") Δ (Dat K (.int th)) := fun h => ev_fld (ev_var h) T.c_Table T.n_Table_height rfl
  generalize hA : (⟨tw, th, ps, ⟨nb, bx, bY, bdx, bdy, bm⟩, ⟨nc, cx, cY, cdx, cdy, cm⟩⟩ : TwoA) = y
  have eX : mxF y = meetF tw (bx - bdx * bm) bdx (cx - cdx * cm) cdx := by rw [← hA]; rfl
  have eY : myF y = meetF th (bY - bdy * bm) bdy (cY - cdy * cm) cdy := by rw [← hA]; rfl
  refine sj_seq (M := fun Δ' => ∃ s4 s5 s6 s7, Δ' = [.val (TabR K T.C_Table tw th ps), .val (Dat K (.tuple [.str nb, .int bx, .int bY, .int bdx, .int bdy, .int bm])), .val (Dat K (.tuple [.str nc, .int cx, .int cY, .int cdx, .int cdy, .int cm])), .opn (OLst K [clsD (mxF y), clsD (myF y)]), s4, s5, s6, s7])
    (sj_forT (ds := [datP (1, tw), datP (2, th)]) (ev_tup (ds := [datP (1, tw), datP (2, th)]) (ea_cons (ev_tup (ds := [.int 1, .int tw]) (ea_cons ev_int (ea_cons (by subst hA; exact eW rfl) ea_nil)) (by show 2 ≤ sizeLine; decide)) (ea_cons (ev_tup (ds := [.int 2, .int th]) (ea_cons ev_int (ea_cons (by subst hA; exact eH rfl) ea_nil)) (by show 2 ≤ sizeLine; decide)) ea_nil)) (by show 2 ≤ sizeLine; decide))
      (fun i Δ' => ∃ s4 s5 s6 s7, Δ' = [.val (TabR K T.C_Table tw th ps), .val (Dat K (.tuple [.str nb, .int bx, .int bY, .int bdx, .int bdy, .int bm])), .val (Dat K (.tuple [.str nc, .int cx, .int cY, .int cdx, .int cdy, .int cm])), .opn (OLst K ([clsD (mxF y), clsD (myF y)].take i)), s4, s5, s6, s7]) (by subst hA; exact ⟨_, _, _, _, rfl⟩) (fun i d Δ' hd hP => ?_) (fun Δ' hP => hP)) ?_
  · obtain ⟨s4, s5, s6, s7, rfl⟩ := hP
    match i, hd with
    | 0, hd =>
      cases Option.some.inj hd
      refine ⟨_, _, gj_tup (ds := [.int 1, .int tw]) rfl (gjs_cons gj_name (gjs_cons gj_name gjs_nil)), ?_⟩
      refine q_asg (R := Dat K (.int (bx - bdx * bm))) (ev_sub (ev_ixT (eb rfl) (v rfl) rfl) (ev_mul (ev_ixT (eb rfl) (ev_add (v rfl) ev_int) rfl) (ev_ixT (eb rfl) ev_int rfl) (cmul1 hbx))) ?_
      refine q_asg (R := Dat K (.int (cx - cdx * cm))) (ev_sub (ev_ixT (ec rfl) (v rfl) rfl) (ev_mul (ev_ixT (ec rfl) (ev_add (v rfl) ev_int) rfl) (ev_ixT (ec rfl) ev_int rfl) (cmul1 hcx))) ?_
      refine sj_app (d := clsD (mxF y)) rfl ?_ (by show 0 < sizeLine; decide) ⟨_, _, _, _, rfl⟩
      rw [eX]
      exact ev_call (⟨tw, bx - bdx * bm, bdx, cx - cdx * cm, cdx⟩ : MeetA) (ea_cons (v rfl) (ea_cons (v rfl) (ea_cons (ev_ixT (eb rfl) (ev_add (v rfl) ev_int) rfl) (ea_cons (v rfl) (ea_cons (ev_ixT (ec rfl) (ev_add (v rfl) ev_int) rfl) ea_nil))))) ⟨by show 0 < tw; omega, hbx, hcx⟩
    | 1, hd =>
      cases Option.some.inj hd
      refine ⟨_, _, gj_tup (ds := [.int 2, .int th]) rfl (gjs_cons gj_name (gjs_cons gj_name gjs_nil)), ?_⟩
      refine q_asg (R := Dat K (.int (bY - bdy * bm))) (ev_sub (ev_ixT (eb rfl) (v rfl) rfl) (ev_mul (ev_ixT (eb rfl) (ev_add (v rfl) ev_int) rfl) (ev_ixT (eb rfl) ev_int rfl) (cmul1 hby))) ?_
      refine q_asg (R := Dat K (.int (cY - cdy * cm))) (ev_sub (ev_ixT (ec rfl) (v rfl) rfl) (ev_mul (ev_ixT (ec rfl) (ev_add (v rfl) ev_int) rfl) (ev_ixT (ec rfl) ev_int rfl) (cmul1 hcy))) ?_
      refine sj_app (d := clsD (myF y)) rfl ?_ (by show 1 < sizeLine; decide) ⟨_, _, _, _, rfl⟩
      rw [eY]
      exact ev_call (⟨th, bY - bdy * bm, bdy, cY - cdy * cm, cdy⟩ : MeetA) (ea_cons (v rfl) (ea_cons (v rfl) (ea_cons (ev_ixT (eb rfl) (ev_add (v rfl) ev_int) rfl) (ea_cons (v rfl) (ea_cons (ev_ixT (ec rfl) (ev_add (v rfl) ev_int) rfl) ea_nil))))) ⟨by show 0 < th; omega, hby, hcy⟩
    | (k + 2), hd => cases hd
  · rintro Δ' ⟨s4, s5, s6, s7, rfl⟩
    refine sj_frz (i := 3) rfl ?_
    exact sj_retD (ev_tup (ds := [clsD (mxF y), clsD (myF y)]) (ea_cons (ev_ixL (ev_var rfl) ev_int rfl) (ea_cons (ev_ixL (ev_var rfl) ev_int rfl) ea_nil)) (by show 2 ≤ sizeLine; decide)) (by subst hA; rfl) rfl
/-! ### at_point -/
structure PtA where
  w : Int
  h : Int
  ps : List Pt
  b : Bal
  p : Pt
structure PtOk (y : PtA) : Prop where
  t : TbOk y.w y.h
  b : BalOk y.w y.h y.b
  on : onT y.w y.h y.p = true
def argsTBP (K : PySem.W.Frag) (C : Addr) (y : PtA) : List RR := [TabR K C y.w y.h y.ps, Dat K (ballD y.b), Dat K (datP y.p)]
def pxF (y : PtA) : List Cl := meetF y.w (y.b.x - y.b.dx * y.b.m) y.b.dx y.p.1 0
def pyF (y : PtA) : List Cl := meetF y.h (y.b.y - y.b.dy * y.b.m) y.b.dy y.p.2 0
noncomputable def ptF (y : PtA) : List Cl := orderF (crossedF (pxF y) (pyF y))
theorem is1_0 : is1 0 := Or.inr (Or.inl rfl)
theorem small_mod {c s : Int} (h0 : 0 < c) (h : c ≤ 2 * s) (h2 : s ≤ 1000000000000000000000000000000) : c.natAbs < BB := by
  have e : BB = 2 ^ 128 := rfl
  omega
theorem cr_pre {s t a d b e a' d' b' e' : Int} (s1 : 1 ≤ s) (s2 : s ≤ 1000000000000000000000000000000) (t1 : 1 ≤ t) (t2 : t ≤ 1000000000000000000000000000000) (hd : is1 d) (he : is1 e) (hd' : is1 d') (he' : is1 e') :
    CrPre (meetF s a d b e) (meetF t a' d' b' e') := by
  obtain ⟨o1, m1⟩ := meet_ok (a := a) (b := b) (show 0 < s by omega) hd he
  obtain ⟨o2, m2⟩ := meet_ok (a := a') (b := b') (show 0 < t by omega) hd' he'
  exact ⟨fun c hc => ⟨o1.gd c hc, small_mod (by have := o1.gd c hc; unfold good at this; omega) (m1 c hc) s2⟩, fun c hc => ⟨o2.gd c hc, small_mod (by have := o2.gd c hc; unfold good at this; omega) (m2 c hc) t2⟩, o1.len, o2.len⟩
def sp_at_point (K : PySem.W.Frag) (C C2 : Addr) : Sp := spOf (argsTBP K C) PtOk (fun y => TimR K C2 y.b.m (ptF y))
theorem tim_ok {n : Nat} {cs : List Cl} {Pr : Int → Prop} {st : Int} (h : ClsOk n cs Pr) (hn : n ≤ 64) (hs : 0 ≤ st) : TimOk ⟨st, cs⟩ := ⟨hs, Nat.le_trans h.len hn, h.gd, h.eqm, h.nd⟩
theorem ok_at_point (T : TX K mg) : FnOk P w K mg base CX0 4 T.f_at_point T.d_at_point p_at_point (sp_at_point K T.C_Table T.C_Times) := by
  refine fn_ok T.F_at_point sc_at_point (fun _ => rfl) fun cdv A outer s H E hr => ⟨_, (pss_cons (ps_expr (pe_call (ok_check_ball T) (hr.mono (by decide)) (by rfl) T.g_check_ball T.F_check_ball.kp T.b_check_ball .nil pass0 (pa_cons (pv 0) (pa_cons (pv 1) pa_nil))))
(pss_cons (ps_expr (pe_meth (pv 0) T.c_Table T.M_Table_check_point (ok_Table_check_point T) (hr.mono (by decide)) T.b_Table_check_point .nil pass0 (pa_cons (pv 2) pa_nil)))
(pss_cons (ps_set (i := 3) sc_at_point.nd rfl (Or.inl rfl) (pe_lst pa_nil))
(pss_cons (ps_for PassesOwn.never rfl (kpi_tup K rfl (pe_tup (pa_cons (pe_tup (pa_cons pe_int (pa_cons (kpe_fld K rfl (pv 0) rfl) pa_nil))) (pa_cons (pe_tup (pa_cons pe_int (pa_cons (kpe_fld K rfl (pv 0) rfl) pa_nil))) pa_nil)))) (kpg_tup (n := 2) K rfl rfl (pgs_cons (pg_name (i := 4) sc_at_point.nd rfl (Or.inl rfl)) (pgs_cons (pg_name (i := 5) sc_at_point.nd rfl (Or.inl rfl)) pgs_nil)))
(pss_cons (ps_set (i := 6) sc_at_point.nd rfl (Or.inl rfl) (pe_op op_sub (pe_ix (kix_tup K) (pv 1) (pv 4) (fun _ _ => rfl)) (pe_op op_mul (pe_ix (kix_tup K) (pv 1) (pe_op op_add (pv 4) pe_int) (fun _ _ => rfl)) (pe_ix (kix_tup K) (pv 1) pe_int (fun _ _ => rfl)))))
(pss_one (kps_app K rfl (pv 3) (pa_cons (pe_call (ok_point_classes T) (hr.mono (by decide)) (by rfl) T.g_point_classes T.F_point_classes.kp T.b_point_classes .nil pass0 (pa_cons (pv 5) (pa_cons (pv 6) (pa_cons (pe_ix (kix_tup K) (pv 1) (pe_op op_add (pv 4) pe_int) (fun _ _ => rfl)) (pa_cons (pe_ix (kix_tup K) (pv 2) (pe_op op_sub (pv 4) pe_int) (fun _ _ => rfl)) pa_nil))))) pa_nil)))))
(pss_one (ps_ret (pe_make T.mk_Times (ok_Times_init T) (hr.mono (by decide)) (by rfl) T.g_Times T.b_Times_init .nil pass0 (pa_cons (pe_ix (kix_tup K) (pv 1) pe_int (fun _ _ => rfl)) (pa_cons pe_non (pa_cons (pe_call (ok_crossed T) (hr.mono (by decide)) (by rfl) T.g_crossed T.F_crossed.kp T.b_crossed .nil pass0 (pa_cons (pe_ix (kix_list K) (pv 3) pe_int (fun _ _ => rfl)) (pa_cons (pe_ix (kix_list K) (pv 3) pe_int (fun _ _ => rfl)) pa_nil))) pa_nil)))))))))), fun y hy => ?_⟩
  obtain ⟨tw, th, ps, ⟨nb, bx, bY, bdx, bdy, bm⟩, ⟨gx, gy⟩⟩ := y
  obtain ⟨ht, hb, on⟩ := hy
  have hbx := hb.hx
  have hby := hb.hy
  have w1 := ht.w1
  have h1 := ht.h1
  have m0 := hb.m0
  simp only at hbx hby w1 h1 m0
  have v {Δ : List Slot} {i : Nat} {z : Int} (h : Δ[i]? = some (.val (Dat K (.int z)))) : EvR (tVar i) Δ (Dat K (.int z)) := ev_var h
  have eb : ∀ {Δ : List Slot}, Δ[1]? = some (.val (Dat K (.tuple [.str nb, .int bx, .int bY, .int bdx, .int bdy, .int bm]))) → EvR (tVar 1) Δ (Dat K (.tuple [.str nb, .int bx, .int bY, .int bdx, .int bdy, .int bm])) := fun h => ev_var h
  have eg : ∀ {Δ : List Slot}, Δ[2]? = some (.val (Dat K (.tuple [.int gx, .int gy]))) → EvR (tVar 2) Δ (Dat K (.tuple [.int gx, .int gy])) := fun h => ev_var h
  refine q_drop (ev_call (⟨tw, th, ps, ⟨nb, bx, bY, bdx, bdy, bm⟩⟩ : BalA) (ea_cons (ev_var rfl) (ea_cons (ev_var rfl) ea_nil)) hb) ?_
  refine q_drop (ev_meth (⟨tw, th, ps, (gx, gy)⟩ : TabA) (ev_var rfl) (hasM_ins rfl) (ea_cons (ev_var rfl) ea_nil) rfl on) ?_
  refine q_new (K := K) ?_
  have eW : ∀ {Δ : List Slot}, Δ[0]? = some (.val (TabR K T.C_Table tw th ps)) → EvR (tFld K (tVar 0) "width") Δ (Dat K (.int tw)) := fun h => ev_fld (ev_var h) T.c_Table T.n_Table_width rfl
  have eH : ∀ {Δ : List Slot}, Δ[0]? = some (.val (TabR K T.C_Table tw th ps)) → EvR (tFld K (tVar 0) "height") Δ (Dat K (.int th)) := fun h => ev_fld (ev_var h) T.c_Table T.n_Table_height rfl
  have o1 := (meet_ok (s := tw) (a := bx - bdx * bm) (b := gx) (show 0 < tw by omega) hbx is1_0).1
  have o2 := (meet_ok (s := th) (a := bY - bdy * bm) (b := gy) (show 0 < th by omega) hby is1_0).1
  have cr := cr_pre (a := bx - bdx * bm) (b := gx) (a' := bY - bdy * bm) (b' := gy) ht.w1 ht.w2 ht.h1 ht.h2 hbx is1_0 hby is1_0
  refine sj_seq (M := fun Δ' => ∃ s4 s5 s6, Δ' = [.val (TabR K T.C_Table tw th ps), .val (Dat K (.tuple [.str nb, .int bx, .int bY, .int bdx, .int bdy, .int bm])), .val (Dat K (.tuple [.int gx, .int gy])), .opn (OLst K [clsD (meetF tw (bx - bdx * bm) bdx gx 0), clsD (meetF th (bY - bdy * bm) bdy gy 0)]), s4, s5, s6])
    (sj_forT (ds := [datP (1, tw), datP (2, th)]) (ev_tup (ds := [datP (1, tw), datP (2, th)]) (ea_cons (ev_tup (ds := [.int 1, .int tw]) (ea_cons ev_int (ea_cons (eW rfl) ea_nil)) (by show 2 ≤ sizeLine; decide)) (ea_cons (ev_tup (ds := [.int 2, .int th]) (ea_cons ev_int (ea_cons (eH rfl) ea_nil)) (by show 2 ≤ sizeLine; decide)) ea_nil)) (by show 2 ≤ sizeLine; decide))
      (fun i Δ' => ∃ s4 s5 s6, Δ' = [.val (TabR K T.C_Table tw th ps), .val (Dat K (.tuple [.str nb, .int bx, .int bY, .int bdx, .int bdy, .int bm])), .val (Dat K (.tuple [.int gx, .int gy])), .opn (OLst K ([clsD (meetF tw (bx - bdx * bm) bdx gx 0), clsD (meetF th (bY - bdy * bm) bdy gy 0)].take i)), s4, s5, s6]) ⟨_, _, _, rfl⟩ (fun i d Δ' hd hP => ?_) (fun Δ' hP => hP)) ?_
  · obtain ⟨s4, s5, s6, rfl⟩ := hP
    match i, hd with
    | 0, hd =>
      cases Option.some.inj hd
      refine ⟨_, _, gj_tup (ds := [.int 1, .int tw]) rfl (gjs_cons gj_name (gjs_cons gj_name gjs_nil)), ?_⟩
      refine q_asg (R := Dat K (.int (bx - bdx * bm))) (ev_sub (ev_ixT (eb rfl) (v rfl) rfl) (ev_mul (ev_ixT (eb rfl) (ev_add (v rfl) ev_int) rfl) (ev_ixT (eb rfl) ev_int rfl) (cmul1 hbx))) ?_
      exact sj_app (d := clsD (meetF tw (bx - bdx * bm) bdx gx 0)) rfl (ev_call (⟨tw, bx - bdx * bm, bdx, gx⟩ : PointA) (ea_cons (v rfl) (ea_cons (v rfl) (ea_cons (ev_ixT (eb rfl) (ev_add (v rfl) ev_int) rfl) (ea_cons (ev_ixT (eg rfl) (ev_sub (v rfl) ev_int) rfl) ea_nil)))) ⟨by show 0 < tw; omega, hbx, is1_0⟩) (by show 0 < sizeLine; decide) ⟨_, _, _, rfl⟩
    | 1, hd =>
      cases Option.some.inj hd
      refine ⟨_, _, gj_tup (ds := [.int 2, .int th]) rfl (gjs_cons gj_name (gjs_cons gj_name gjs_nil)), ?_⟩
      refine q_asg (R := Dat K (.int (bY - bdy * bm))) (ev_sub (ev_ixT (eb rfl) (v rfl) rfl) (ev_mul (ev_ixT (eb rfl) (ev_add (v rfl) ev_int) rfl) (ev_ixT (eb rfl) ev_int rfl) (cmul1 hby))) ?_
      exact sj_app (d := clsD (meetF th (bY - bdy * bm) bdy gy 0)) rfl (ev_call (⟨th, bY - bdy * bm, bdy, gy⟩ : PointA) (ea_cons (v rfl) (ea_cons (v rfl) (ea_cons (ev_ixT (eb rfl) (ev_add (v rfl) ev_int) rfl) (ea_cons (ev_ixT (eg rfl) (ev_sub (v rfl) ev_int) rfl) ea_nil)))) ⟨by show 0 < th; omega, hby, is1_0⟩) (by show 1 < sizeLine; decide) ⟨_, _, _, rfl⟩
    | (k + 2), hd => cases hd
  · rintro Δ' ⟨s4, s5, s6, rfl⟩
    refine sj_frz (i := 3) rfl ?_
    refine sj_ret (ev_make (⟨bm, crossedF (meetF tw (bx - bdx * bm) bdx gx 0) (meetF th (bY - bdy * bm) bdy gy 0)⟩ : TimA) (ea_cons (ev_ixT (eb rfl) ev_int rfl) (ea_cons ev_non (ea_cons (ev_call ((meetF tw (bx - bdx * bm) bdx gx 0, meetF th (bY - bdy * bm) bdy gy 0) : List Cl × List Cl) (ea_cons (ev_ixL (ev_var rfl) ev_int rfl) (ea_cons (ev_ixL (ev_var rfl) ev_int rfl) ea_nil)) cr) ea_nil))) (tim_ok (crossed_ok o1 o2) (by decide) m0)) fun _ _ h => h
/-! ### meetings -/
noncomputable def mtF (y : TwoA) : List Cl := orderF (crossedF (mxF y) (myF y))
def sp_meetings (K : PySem.W.Frag) (C C2 : Addr) : Sp := spOf (argsTBB K C) TwoOk (fun y => TimR K C2 (maxI y.b.m y.c.m) (mtF y))
theorem ok_meetings (T : TX K mg) : FnOk P w K mg base CX0 4 T.f_meetings T.d_meetings p_meetings (sp_meetings K T.C_Table T.C_Times) := by
  refine fn_ok T.F_meetings sc_meetings (fun _ => rfl) fun cdv A outer s H E hr => ⟨_, (pss_cons (ps_expr (pe_call (ok_check_ball T) (hr.mono (by decide)) (by rfl) T.g_check_ball T.F_check_ball.kp T.b_check_ball .nil pass0 (pa_cons (pv 0) (pa_cons (pv 1) pa_nil))))
(pss_cons (ps_expr (pe_call (ok_check_ball T) (hr.mono (by decide)) (by rfl) T.g_check_ball T.F_check_ball.kp T.b_check_ball .nil pass0 (pa_cons (pv 0) (pa_cons (pv 2) pa_nil))))
(pss_cons (ps_asg (pe_call (ok_part_classes T) (hr.mono (by decide)) (by rfl) T.g_part_classes T.F_part_classes.kp T.b_part_classes .nil pass0 (pa_cons (pv 0) (pa_cons (pv 1) (pa_cons (pv 2) pa_nil)))) (kpg_tup (n := 2) K rfl rfl (pgs_cons (pg_name (i := 3) sc_meetings.nd rfl (Or.inl rfl)) (pgs_cons (pg_name (i := 4) sc_meetings.nd rfl (Or.inl rfl)) pgs_nil))))
(pss_one (ps_ret (pe_make T.mk_Times (ok_Times_init T) (hr.mono (by decide)) (by rfl) T.g_Times T.b_Times_init .nil pass0 (pa_cons (pe_callB (id := "max") (call_max2 rfl) (by rfl) T.z_max (by decide +kernel) (pa_cons (pe_ix (kix_tup K) (pv 1) pe_int (fun _ _ => rfl)) (pa_cons (pe_ix (kix_tup K) (pv 2) pe_int (fun _ _ => rfl)) pa_nil))) (pa_cons pe_non (pa_cons (pe_call (ok_crossed T) (hr.mono (by decide)) (by rfl) T.g_crossed T.F_crossed.kp T.b_crossed .nil pass0 (pa_cons (pv 3) (pa_cons (pv 4) pa_nil))) pa_nil))))))))), fun y hy => ?_⟩
  have h0 := hy
  obtain ⟨ht, hb, hc⟩ := hy
  have eb : ∀ {Δ : List Slot}, Δ[1]? = some (.val (Dat K (ballD y.b))) → EvR (tVar 1) Δ (Dat K (.tuple [.str y.b.n, .int y.b.x, .int y.b.y, .int y.b.dx, .int y.b.dy, .int y.b.m])) := fun h => ev_var h
  have ec : ∀ {Δ : List Slot}, Δ[2]? = some (.val (Dat K (ballD y.c))) → EvR (tVar 2) Δ (Dat K (.tuple [.str y.c.n, .int y.c.x, .int y.c.y, .int y.c.dx, .int y.c.dy, .int y.c.m])) := fun h => ev_var h
  refine q_drop (ev_call (⟨y.w, y.h, y.ps, y.b⟩ : BalA) (ea_cons (ev_var rfl) (ea_cons (ev_var rfl) ea_nil)) hb) ?_
  refine q_drop (ev_call (⟨y.w, y.h, y.ps, y.c⟩ : BalA) (ea_cons (ev_var rfl) (ea_cons (ev_var rfl) ea_nil)) hc) ?_
  refine q_asgG (ev_call y (ea_cons (ev_var rfl) (ea_cons (ev_var rfl) (ea_cons (ev_var rfl) ea_nil))) h0) (gj_tup (ds := [clsD (mxF y), clsD (myF y)]) rfl (gjs_cons gj_name (gjs_cons gj_name gjs_nil))) ?_
  have o1 := (meet_ok (s := y.w) (a := y.b.x - y.b.dx * y.b.m) (b := y.c.x - y.c.dx * y.c.m) (show 0 < y.w by have := ht.w1; omega) hb.hx hc.hx).1
  have o2 := (meet_ok (s := y.h) (a := y.b.y - y.b.dy * y.b.m) (b := y.c.y - y.c.dy * y.c.m) (show 0 < y.h by have := ht.h1; omega) hb.hy hc.hy).1
  have cr : CrPre (mxF y) (myF y) := cr_pre ht.w1 ht.w2 ht.h1 ht.h2 hb.hx hc.hx hb.hy hc.hy
  have m0 : 0 ≤ maxI y.b.m y.c.m := by
    have := hb.m0
    have := hc.m0
    unfold maxI
    split <;> omega
  refine sj_ret (ev_make (⟨maxI y.b.m y.c.m, crossedF (mxF y) (myF y)⟩ : TimA) (ea_cons (ev_cb (ea_cons (ev_ixT (eb rfl) ev_int rfl) (ea_cons (ev_ixT (ec rfl) ev_int rfl) ea_nil)) cb_max2) (ea_cons ev_non (ea_cons (ev_call ((mxF y, myF y) : List Cl × List Cl) (ea_cons (ev_var rfl) (ea_cons (ev_var rfl) ea_nil)) cr) ea_nil))) (tim_ok (crossed_ok o1 o2) (by decide) m0)) fun _ _ h => h
end CU
/-! F8: falls, aims. -/
namespace CU
open PySem PySem.Spec PyProof.Rows L2 DL
variable {P : Program} {w : World} {K : PySem.W.Frag} {mg : Str → Option Value} {base : Heap}
def PtPr (w h : Int) (b : Bal) (p : Pt) (t : Int) : Prop := Mt w (b.x + b.dx * (t - b.m)) p.1 ∧ Mt h (b.y + b.dy * (t - b.m)) p.2
def MtPr (w h : Int) (b c : Bal) (t : Int) : Prop := Mt w (b.x + b.dx * (t - b.m)) (c.x + c.dx * (t - c.m)) ∧ Mt h (b.y + b.dy * (t - b.m)) (c.y + c.dy * (t - c.m))
theorem at_eq (x d m t : Int) : x - d * m + d * t = x + d * (t - m) := by
  rw [Int.mul_sub]
  omega
theorem ptF_ok {y : PtA} (hy : PtOk y) : ClsOk (2 * 2) (ptF y) (PtPr y.w y.h y.b y.p) := by
  have o1 := (meet_ok (s := y.w) (a := y.b.x - y.b.dx * y.b.m) (b := y.p.1) (show 0 < y.w by have := hy.t.w1; omega) hy.b.hx is1_0).1
  have o2 := (meet_ok (s := y.h) (a := y.b.y - y.b.dy * y.b.m) (b := y.p.2) (show 0 < y.h by have := hy.t.h1; omega) hy.b.hy is1_0).1
  refine ((crossed_ok o1 o2).perm (orderF_perm _)).imp fun t => ?_
  rw [at_eq, at_eq, Int.zero_mul, Int.add_zero, Int.add_zero]
  exact Iff.rfl
theorem mtF_ok {y : TwoA} (hy : TwoOk y) : ClsOk (2 * 2) (mtF y) (MtPr y.w y.h y.b y.c) := by
  have o1 := (meet_ok (s := y.w) (a := y.b.x - y.b.dx * y.b.m) (b := y.c.x - y.c.dx * y.c.m) (show 0 < y.w by have := hy.t.w1; omega) hy.b.hx hy.c.hx).1
  have o2 := (meet_ok (s := y.h) (a := y.b.y - y.b.dy * y.b.m) (b := y.c.y - y.c.dy * y.c.m) (show 0 < y.h by have := hy.t.h1; omega) hy.b.hy hy.c.hy).1
  refine ((crossed_ok o1 o2).perm (orderF_perm _)).imp fun t => ?_
  rw [at_eq, at_eq, at_eq, at_eq]
  exact Iff.rfl
theorem maxI_self (a : Int) : maxI a a = a := by
  unfold maxI
  split <;> omega
/-! ### fall_of -/
noncomputable def fallStep (w h : Int) (b : Bal) (found : Option (Int × Pt)) (p : Pt) : Option (Int × Pt) :=
  match nxt (PtPr w h b p) b.m with
  | none => found
  | some t => match found with
    | none => some (t, p)
    | some (t', q) => if t < t' then some (t, p) else some (t', q)
noncomputable def fallF (w h : Int) (b : Bal) (ps : List Pt) : Option (Int × Pt) := ps.foldl (fallStep w h b) none
def minD (q : Int × Pt) : PyData := .tuple [.int q.1, datP q.2]
def fallD : Option (Int × Pt) → PyData
  | none => .none
  | some q => minD q
structure FalOk (y : BalA) : Prop where
  t : TbOk y.w y.h
  b : BalOk y.w y.h y.b
  on : ∀ p ∈ y.ps, onT y.w y.h p = true
def sp_fall_of (K : PySem.W.Frag) (C : Addr) : Sp := spOf (argsTB K C) FalOk (fun y => Dat K (fallD (fallF y.w y.h y.b y.ps)))
theorem ok_fall_of (T : TX K mg) : FnOk P w K mg base CX0 5 T.f_fall_of T.d_fall_of p_fall_of (sp_fall_of K T.C_Table) := by
  refine fn_ok T.F_fall_of sc_fall_of (fun _ => rfl) fun cdv A outer s H E hr => ⟨_, (pss_cons (ps_expr (pe_call (ok_check_ball T) (hr.mono (by decide)) (by rfl) T.g_check_ball T.F_check_ball.kp T.b_check_ball .nil pass0 (pa_cons (pv 0) (pa_cons (pv 1) pa_nil))))
(pss_cons (ps_set (i := 2) sc_fall_of.nd rfl (Or.inl rfl) pe_non)
(pss_cons (ps_for PassesOwn.never rfl (kpi_tup K rfl (kpe_fld K rfl (pv 0) rfl)) (pg_name (i := 3) sc_fall_of.nd rfl (Or.inl rfl))
(pss_cons (ps_set (i := 4) sc_fall_of.nd rfl (Or.inl rfl) (pe_meth (pe_call (ok_at_point T) (hr.mono (by decide)) (by rfl) T.g_at_point T.F_at_point.kp T.b_at_point .nil pass0 (pa_cons (pv 0) (pa_cons (pv 1) (pa_cons (pv 3) pa_nil)))) T.c_Times T.M_Times_next_from (ok_Times_next_from T) (hr.mono (by decide)) T.b_Times_next_from .nil pass0 (pa_cons (pe_ix (kix_tup K) (pv 1) pe_int (fun _ _ => rfl)) pa_nil)))
(pss_one (ps_if (PW.pt (pw_and (pt_cmpR op_notN (pv 4) pe_non (nomark _)) (pw_and1 (PW.pt (pw_or (pt_cmpR op_isN (pv 2) pe_non (nomark _)) (pw_or1 (pt_cmpR op_lt (pv 4) (pe_ix (kix_tup K) (pv 2) pe_int (fun _ _ => rfl)) (nomark _))))))))
(pss_one (ps_set (i := 2) sc_fall_of.nd rfl (Or.inl rfl) (pe_tup (pa_cons (pv 4) (pa_cons (pv 3) pa_nil)))))
pss_nil))))
(pss_one (ps_ret (pv 2)))))), fun y hy => ?_⟩
  obtain ⟨tw, th, ps, b⟩ := y
  obtain ⟨ht, hb, on⟩ := hy
  simp only at ht hb on
  have eb : ∀ {Δ : List Slot}, Δ[1]? = some (.val (Dat K (ballD b))) → EvR (tVar 1) Δ (Dat K (.tuple [.str b.n, .int b.x, .int b.y, .int b.dx, .int b.dy, .int b.m])) := fun h => ev_var h
  refine q_drop (ev_call (⟨tw, th, ps, b⟩ : BalA) (ea_cons (ev_var rfl) (ea_cons (ev_var rfl) ea_nil)) hb) ?_
  refine q_asg (R := Dat K (fallD none)) ev_non ?_
  show SJ _ _ (retA (Dat K (fallD (fallF tw th b ps))))
  refine sj_seq (M := fun Δ' => ∃ s3 s4, Δ' = [.val (TabR K T.C_Table tw th ps), .val (Dat K (ballD b)), .val (Dat K (fallD (fallF tw th b ps))), s3, s4])
    (sj_forT (ds := ps.map datP) (ev_fld (ev_var rfl) T.c_Table T.n_Table_pockets rfl) (fun i Δ' => ∃ s3 s4, Δ' = [.val (TabR K T.C_Table tw th ps), .val (Dat K (ballD b)), .val (Dat K (fallD (fallF tw th b (ps.take i)))), s3, s4]) ⟨_, _, rfl⟩ (fun i d Δ' hd hP => ?_) (fun Δ' hP => ?_)) ?_
  · obtain ⟨s3, s4, rfl⟩ := hP
    obtain ⟨p, hp, rfl⟩ := map_get hd
    have onp := on p (List.mem_of_getElem? hp)
    refine ⟨_, _, gj_name, ?_⟩
    have tk : fallF tw th b (ps.take (i + 1)) = fallStep tw th b (fallF tw th b (ps.take i)) p := by
      unfold fallF
      rw [List.take_add_one, hp, List.foldl_append]
      rfl
    have po : PtOk ⟨tw, th, ps, b, p⟩ := ⟨ht, hb, onp⟩
    have hnx := ptF_ok po
    refine q_asg (R := Dat K (optI (nxt (PtPr tw th b p) b.m))) ((ev_meth (⟨b.m, ptF ⟨tw, th, ps, b, p⟩, b.m, 4, PtPr tw th b p⟩ : NxA) (ev_call (⟨tw, th, ps, b, p⟩ : PtA) (ea_cons (ev_var rfl) (ea_cons (ev_var rfl) (ea_cons (ev_var rfl) ea_nil))) po) (hasM_ins rfl) (ea_cons (ev_ixT (eb rfl) ev_int rfl) ea_nil) rfl ⟨(by decide : (4 : Nat) ≤ 64), hnx⟩).cast (by unfold nxR; rw [maxI_self])) ?_
    dsimp only
    rw [tk]
    unfold fallStep
    generalize nxt (PtPr tw th b p) b.m = o
    generalize fallF tw th b (ps.take i) = f
    match o, f with
    | none, f =>
      exact sj_ifF (et_and (b := false) (et_test (ev_notN (K := K) (d := .none) (ev_var rfl) ev_non)) fun h => by cases h) rfl (sj_next ⟨_, _, rfl⟩)
    | some t, none =>
      refine sj_ifT (et_and (et_test (ev_notN (K := K) (d := .int t) (ev_var rfl) ev_non)) fun _ => et_or (b := false) (et_test (ev_isN (K := K) (d := .none) (ev_var rfl) ev_non)) fun h => by cases h) rfl ?_
      exact sj_asg (R := Dat K (fallD (some (t, p)))) (ev_tup (ds := [.int t, datP p]) (ea_cons (ev_var rfl) (ea_cons (ev_var rfl) ea_nil)) (by show 2 ≤ sizeLine; decide)) ⟨_, _, rfl⟩
    | some t, some (t', q) =>
      refine sj_if (et_and (et_test (ev_notN (K := K) (d := .int t) (ev_var rfl) ev_non)) fun _ => et_or (et_test (ev_isN (K := K) (d := minD (t', q)) (ev_var rfl) ev_non)) fun _ => et_test (ev_lt (ev_var rfl) (ev_ixT (ds := [.int t', datP q]) (ev_var rfl) ev_int rfl))) (fun hb => ?_) (fun hb => ?_)
      · have hlt : t < t' := of_decide_eq_true (by simpa [isNoneD, minD] using hb)
        simp only [if_pos hlt]
        exact sj_asg (R := Dat K (fallD (some (t, p)))) (ev_tup (ds := [.int t, datP p]) (ea_cons (ev_var rfl) (ea_cons (ev_var rfl) ea_nil)) (by show 2 ≤ sizeLine; decide)) ⟨_, _, rfl⟩
      · have hlt : ¬ t < t' := by simpa [isNoneD, minD] using hb
        simp only [if_neg hlt]
        exact sj_next ⟨_, _, rfl⟩
  · obtain ⟨s3, s4, rfl⟩ := hP
    rw [List.length_map, List.take_length]
    exact ⟨_, _, rfl⟩
  · rintro Δ' ⟨s3, s4, rfl⟩
    exact sj_ret (ev_var rfl) fun _ _ h => h
/-! ### starts_from -/
def aimB (p : Pt) (m : Int) (d : Pt) : Bal := ⟨"aim", p.1, p.2, d.1, d.2, m⟩
structure StA where
  w : Int
  h : Int
  ps : List Pt
  p : Pt
  m : Int
structure StOk (y : StA) : Prop where
  t : TbOk y.w y.h
  on : onT y.w y.h y.p = true
  m0 : 0 ≤ y.m
  m1 : y.m ≤ 1000000000000000000000000000000
theorem dirs_ok : ∀ d ∈ dirs, is1 d.1 ∧ is1 d.2 ∧ (d.1, d.2) ≠ (0, 0) := by
  unfold is1
  decide
theorem aim_ok {w h : Int} {p : Pt} {m : Int} (on : onT w h p = true) (m0 : 0 ≤ m) (m1 : m ≤ 1000000000000000000000000000000) {d : Pt} (hd : d ∈ dirs) : BalOk w h (aimB p m d) :=
  ⟨Or.inl rfl, on, m0, m1, (dirs_ok d hd).1, (dirs_ok d hd).2.1, (dirs_ok d hd).2.2⟩
def argsSt (K : PySem.W.Frag) (C : Addr) (y : StA) : List RR := [TabR K C y.w y.h y.ps, Dat K (datP y.p), Dat K (.int y.m)]
def sp_starts_from (K : PySem.W.Frag) (C : Addr) : Sp := spOf (argsSt K C) StOk (fun y => Dat K (.list (dirs.map fun d => ballD (aimB y.p y.m d))))
theorem ok_starts_from (T : TX K mg) : FnOk P w K mg base CX0 3 T.f_starts_from T.d_starts_from p_starts_from (sp_starts_from K T.C_Table) := by
  refine fn_ok T.F_starts_from sc_starts_from (fun _ => rfl) fun cdv A outer s H E hr => ⟨_, (pss_cons (ps_expr (pe_meth (pv 0) T.c_Table T.M_Table_check_point (ok_Table_check_point T) (hr.mono (by decide)) T.b_Table_check_point .nil pass0 (pa_cons (pv 1) pa_nil)))
(pss_cons (ps_if (pt_not (pt_chain op_le op_le pe_int (pv 2) (pe_glob (v := .int 1000000000000000000000000000000) rfl T.m_MOST ⟨_, rfl⟩)))
(pss_one ps_never)
pss_nil)
(pss_one (ps_ret (pe_lc (own := [("dx", 3), ("dy", 4)]) (by rfl) sc_starts_from.nd (kpi_tup K rfl (pe_glob (v := .ref T.a_DIRECTIONS) rfl T.m_DIRECTIONS rfl)) (blkOk_by (N := N_starts_from) (sc := defScope s_starts_from) (by decide +kernel)) (fun _ _ _ _ _ => kpg_tup (n := 2) K rfl rfl (pgs_cons (pg_name (i := 3) sc_starts_from.nd rfl (Or.inl rfl)) (pgs_cons (pg_name (i := 4) sc_starts_from.nd rfl (Or.inl rfl)) pgs_nil))) (fun _ _ _ _ _ => pts_nil) (fun _ _ _ _ _ => (pe_tup (pa_cons pe_str (pa_cons (pe_ix (kix_tup K) (pv 1) pe_int (fun _ _ => rfl)) (pa_cons (pe_ix (kix_tup K) (pv 1) pe_int (fun _ _ => rfl)) (pa_cons (pv 3) (pa_cons (pv 4) (pa_cons (pv 2) pa_nil))))))))))))), fun y hy => ?_⟩
  obtain ⟨tw, th, ps, ⟨px, py⟩, m⟩ := y
  obtain ⟨ht, on, m0, m1⟩ := hy
  simp only at ht on m0 m1
  have ep : ∀ {Δ : List Slot}, Δ[1]? = some (.val (Dat K (.tuple [.int px, .int py]))) → EvR (tVar 1) Δ (Dat K (.tuple [.int px, .int py])) := fun h => ev_var h
  refine q_drop (ev_meth (⟨tw, th, ps, (px, py)⟩ : TabA) (ev_var rfl) (hasM_ins rfl) (ea_cons (ev_var rfl) ea_nil) rfl on) ?_
  refine q_ifF (et_not (et_test (ev_chain (i := 0) (j := m) (k := 1000000000000000000000000000000) ev_int (ev_var rfl) fun _ => ev_int))) (by rw [decide_eq_true m0, decide_eq_true m1]; rfl) (sj_seqN ?_)
  exact sj_retD (ev_lcT0 (xs := dirs) (enc := datP) (fun d => ballD (aimB (px, py) m d)) (ev_c fun G => T.r_DIRECTIONS G) (by show 8 < sizeLine; decide) fun d _ =>
    ⟨_, _, gj_tup (ds := [.int d.1, .int d.2]) rfl (gjs_cons gj_name (gjs_cons gj_name gjs_nil)), by simp, ev_tup (ds := [.str "aim", .int px, .int py, .int d.1, .int d.2, .int m]) (ea_cons ev_str (ea_cons (ev_ixT (ep rfl) ev_int rfl) (ea_cons (ev_ixT (ep rfl) ev_int rfl) (ea_cons (ev_var rfl) (ea_cons (ev_var rfl) (ea_cons (ev_var rfl) ea_nil)))))) (by show 6 ≤ sizeLine; decide)⟩) rfl rfl
/-! ### sorted minutes -/
noncomputable def sortM (l : List (Int × Pt)) : List (Int × Pt) := l.mergeSort (PySem.W.dataLe false minD)
theorem cb_sortM {l : List (Int × Pt)} : CbE (rSortedD K) [Dat K (.list (l.map minD))] (Dat K (.list ((sortM l).map minD))) := by
  refine cb_sorted (K := K) (enc := minD) (bs := l) (fun d hd d' hd' => ?_) (Or.inl fun d hd => ?_) (fun p _ => ?_)
  · obtain ⟨p, _, rfl⟩ := List.mem_map.mp hd
    obtain ⟨q, _, rfl⟩ := List.mem_map.mp hd'
    simp [minD, datP, PySem.W.alike, PySem.W.alikeAll]
  · obtain ⟨p, _, rfl⟩ := List.mem_map.mp hd
    exact ⟨_, _, rfl⟩
  · simp [minD, datP, PyData.depth, PyData.depthAll]
theorem fm_take {α β : Type} (f : α → Option β) (l : List α) (i : Nat) (c : α) (h : l[i]? = some c) : (l.take (i + 1)).filterMap f = (l.take i).filterMap f ++ (f c).toList := by
  rw [List.take_add_one, h, List.filterMap_append]
  cases hc : f c with
  | none => simp [hc]
  | some b => simp [hc]
theorem fm_len {α β : Type} (f : α → Option β) (l : List α) (i : Nat) : ((l.take i).filterMap f).length ≤ l.length := by
  refine Nat.le_trans (List.length_filterMap_le _ _) ?_
  rw [List.length_take]
  omega
theorem ev_sl35 {Δ : List Slot} {te : TE} {b : Bal} (h : EvR te Δ (Dat K (ballD b))) : EvR (tSl (rSlT K) te (tPart (tC (.int 3))) (tPart (tC (.int 5)))) Δ (Dat K (datP (b.dx, b.dy))) :=
  (ev_slT (ds := [.str b.n, .int b.x, .int b.y, .int b.dx, .int b.dy, .int b.m]) h (eo_some (ev_int (K := K))) (eo_some (ev_int (K := K))) (fun z => by cases z.1)).cast rfl
/-! ### pocket_aims -/
structure PokA where
  w : Int
  h : Int
  ps : List Pt
  p : Pt
  m : Int
  k : Pt
structure PokOk (y : PokA) : Prop where
  t : TbOk y.w y.h
  on : onT y.w y.h y.p = true
  m0 : 0 ≤ y.m
  m1 : y.m ≤ 1000000000000000000000000000000
  ok : onT y.w y.h y.k = true
  kin : y.k ∈ y.ps
  os : ∀ p ∈ y.ps, onT y.w y.h p = true
def argsPo (K : PySem.W.Frag) (C : Addr) (y : PokA) : List RR := [TabR K C y.w y.h y.ps, Dat K (datP y.p), Dat K (.int y.m), Dat K (datP y.k)]
noncomputable def pokOne (y : PokA) (d : Pt) : Option (Int × Pt) := match fallF y.w y.h (aimB y.p y.m d) y.ps with
  | none => none
  | some (t, q) => if q = y.k then some (t, d) else none
noncomputable def pokL (y : PokA) : List (Int × Pt) := dirs.filterMap (pokOne y)
def sp_pocket_aims (K : PySem.W.Frag) (C : Addr) : Sp := spOf (argsPo K C) PokOk (fun y => Dat K (.list ((sortM (pokL y)).map minD)))
theorem ok_pocket_aims (T : TX K mg) : FnOk P w K mg base CX0 6 T.f_pocket_aims T.d_pocket_aims p_pocket_aims (sp_pocket_aims K T.C_Table) := by
  refine fn_ok T.F_pocket_aims sc_pocket_aims (fun _ => rfl) fun cdv A outer s H E hr => ⟨_, (pss_cons (ps_set (i := 4) sc_pocket_aims.nd rfl (Or.inl rfl) (pe_call (ok_starts_from T) (hr.mono (by decide)) (by rfl) T.g_starts_from T.F_starts_from.kp T.b_starts_from .nil pass0 (pa_cons (pv 0) (pa_cons (pv 1) (pa_cons (pv 2) pa_nil)))))
(pss_cons (ps_if (pt_not (pt_val (pe_meth (pv 0) T.c_Table T.M_Table_is_pocket (ok_Table_is_pocket T) (hr.mono (by decide)) T.b_Table_is_pocket .nil pass0 (pa_cons (pv 3) pa_nil))))
(pss_one ps_never)
pss_nil)
(pss_cons (ps_set (i := 5) sc_pocket_aims.nd rfl (Or.inl rfl) (pe_lst pa_nil))
(pss_cons (ps_for PassesOwn.never rfl (kpi_list K rfl (pv 4)) (pg_name (i := 6) sc_pocket_aims.nd rfl (Or.inl rfl))
(pss_cons (ps_set (i := 7) sc_pocket_aims.nd rfl (Or.inl rfl) (pe_call (ok_fall_of T) (hr.mono (by decide)) (by rfl) T.g_fall_of T.F_fall_of.kp T.b_fall_of .nil pass0 (pa_cons (pv 0) (pa_cons (pv 6) pa_nil))))
(pss_one (ps_if (PW.pt (pw_and (pt_cmpR op_notN (pv 7) pe_non (nomark _)) (pw_and1 (pt_cmpR (kop_eqD K rfl hr.units) (pe_ix (kix_tup K) (pv 7) pe_int (fun _ _ => rfl)) (pe_callTy (T := "tuple") (kc_tuple K) (by rfl) T.z_tuple (by decide +kernel) (pa_cons (pv 3) pa_nil)) (nomark _)))))
(pss_one (kps_app K rfl (pv 5) (pa_cons (pe_tup (pa_cons (pe_ix (kix_tup K) (pv 7) pe_int (fun _ _ => rfl)) (pa_cons (pe_slice (ksl_tup K) (pv 6) (po_some pe_int) (po_some pe_int)) pa_nil))) pa_nil)))
pss_nil))))
(pss_one (ps_ret (pe_callB (id := "sorted") (kc_sorted K rfl hr.units) (by rfl) T.z_sorted (by decide +kernel) (pa_cons (pv 5) pa_nil)))))))), fun y hy => ?_⟩
  obtain ⟨ht, on, m0, m1, ok, kin, os⟩ := hy
  refine q_asg (ev_call (⟨y.w, y.h, y.ps, y.p, y.m⟩ : StA) (ea_cons (ev_var rfl) (ea_cons (ev_var rfl) (ea_cons (ev_var rfl) ea_nil))) ⟨ht, on, m0, m1⟩) ?_
  refine q_ifF (et_not (et_B (ev_meth (⟨y.w, y.h, y.ps, y.k⟩ : TabA) (ev_var rfl) (hasM_ins rfl) (ea_cons (ev_var rfl) ea_nil) rfl ok))) (by rw [decide_eq_true kin]; rfl) (sj_seqN ?_)
  refine q_new (K := K) ?_
  refine sj_seq (M := fun Δ' => ∃ s6 s7, Δ' = [.val (TabR K T.C_Table y.w y.h y.ps), .val (Dat K (datP y.p)), .val (Dat K (.int y.m)), .val (Dat K (datP y.k)), .val (Dat K (.list (dirs.map fun d => ballD (aimB y.p y.m d)))), .opn (OLst K ((pokL y).map minD)), s6, s7])
    (sj_forL (ds := dirs.map fun d => ballD (aimB y.p y.m d)) (ev_var rfl) (fun i Δ' => ∃ s6 s7, Δ' = [.val (TabR K T.C_Table y.w y.h y.ps), .val (Dat K (datP y.p)), .val (Dat K (.int y.m)), .val (Dat K (datP y.k)), .val (Dat K (.list (dirs.map fun d => ballD (aimB y.p y.m d)))), .opn (OLst K (((dirs.take i).filterMap (pokOne y)).map minD)), s6, s7]) ⟨_, _, rfl⟩ (fun i d Δ' hd hP => ?_) (fun Δ' hP => ?_)) ?_
  · obtain ⟨s6, s7, rfl⟩ := hP
    obtain ⟨d, hp, rfl⟩ := map_get hd
    have md := List.mem_of_getElem? hp
    refine ⟨_, _, gj_name, ?_⟩
    refine q_asg (ev_call (⟨y.w, y.h, y.ps, aimB y.p y.m d⟩ : BalA) (ea_cons (ev_var rfl) (ea_cons (ev_var rfl) ea_nil)) ⟨ht, aim_ok on m0 m1 md, os⟩) ?_
    have hlen := fm_len (pokOne y) dirs i
    have hl8 : (((dirs.take i).filterMap (pokOne y)).map minD).length < sizeLine := by
      rw [List.length_map]
      exact Nat.lt_of_le_of_lt hlen (by decide)
    dsimp only
    rw [fm_take (pokOne y) dirs i d hp]
    have e1 : pokOne y d = match fallF y.w y.h (aimB y.p y.m d) y.ps with
      | none => none
      | some (t, q) => if q = y.k then some (t, d) else none := rfl
    rw [e1]
    generalize fallF y.w y.h (aimB y.p y.m d) y.ps = f
    match f with
    | none =>
      refine sj_ifF (et_and (b := false) (et_test (ev_notN (K := K) (d := .none) (ev_var rfl) ev_non)) fun h => by cases h) rfl (sj_next ?_)
      dsimp only
      rw [Option.toList_none, List.append_nil]
      exact ⟨_, _, rfl⟩
    | some (t, q) =>
      refine sj_if (et_and (et_test (ev_notN (K := K) (d := minD (t, q)) (ev_var rfl) ev_non)) fun _ => et_test (ev_eqD (d := datP q) (d' := datP y.k) (ev_ixT (ds := [.int t, datP q]) (ev_var rfl) ev_int rfl) (ev_cb (ea_cons (ev_var rfl) ea_nil) kb_tupT) (shaped_datP _) (shaped_datP _))) (fun hb => ?_) (fun hb => ?_)
      · rw [eqv_datP] at hb
        have hq : q = y.k := of_decide_eq_true (by simpa [isNoneD, minD] using hb)
        simp only [if_pos hq]
        refine sj_app (d := minD (t, d)) rfl (ev_tup (ds := [.int t, datP d]) (ea_cons (ev_ixT (ds := [.int t, datP q]) (ev_var rfl) ev_int rfl) (ea_cons (ev_sl35 (b := aimB y.p y.m d) (ev_var rfl)) ea_nil)) (by show 2 ≤ sizeLine; decide)) hl8 ?_
        dsimp only
        rw [Option.toList_some, List.map_append]
        exact ⟨_, _, rfl⟩
      · rw [eqv_datP] at hb
        have hq : ¬ q = y.k := by simpa [isNoneD, minD] using hb
        simp only [if_neg hq]
        refine sj_next ?_
        dsimp only
        rw [Option.toList_none, List.append_nil]
        exact ⟨_, _, rfl⟩
  · obtain ⟨s6, s7, rfl⟩ := hP
    rw [List.length_map, List.take_length]
    exact ⟨_, _, rfl⟩
  · rintro Δ' ⟨s6, s7, rfl⟩
    refine sj_frz (i := 5) rfl ?_
    exact sj_retD (ev_cb (ea_cons (ev_var rfl) ea_nil) cb_sortM) rfl rfl
/-! ### meeting_aims -/
structure MeeA where
  w : Int
  h : Int
  ps : List Pt
  p : Pt
  m : Int
  c : Bal
structure MeeOk (y : MeeA) : Prop where
  t : TbOk y.w y.h
  on : onT y.w y.h y.p = true
  m0 : 0 ≤ y.m
  m1 : y.m ≤ 1000000000000000000000000000000
  c : BalOk y.w y.h y.c
def argsMe (K : PySem.W.Frag) (C : Addr) (y : MeeA) : List RR := [TabR K C y.w y.h y.ps, Dat K (datP y.p), Dat K (.int y.m), Dat K (ballD y.c)]
noncomputable def meeOne (y : MeeA) (d : Pt) : Option (Int × Pt) := match nxt (MtPr y.w y.h (aimB y.p y.m d) y.c) (maxI y.m y.c.m) with
  | none => none
  | some t => some (t, d)
noncomputable def meeL (y : MeeA) : List (Int × Pt) := dirs.filterMap (meeOne y)
def sp_meeting_aims (K : PySem.W.Frag) (C : Addr) : Sp := spOf (argsMe K C) MeeOk (fun y => Dat K (.list ((sortM (meeL y)).map minD)))
theorem maxI_0 {a b : Int} (ha : 0 ≤ a) : maxI 0 (maxI a b) = maxI a b := by
  unfold maxI
  split <;> split <;> omega
theorem ok_meeting_aims (T : TX K mg) : FnOk P w K mg base CX0 5 T.f_meeting_aims T.d_meeting_aims p_meeting_aims (sp_meeting_aims K T.C_Table) := by
  refine fn_ok T.F_meeting_aims sc_meeting_aims (fun _ => rfl) fun cdv A outer s H E hr => ⟨_, (pss_cons (ps_set (i := 4) sc_meeting_aims.nd rfl (Or.inl rfl) (pe_call (ok_starts_from T) (hr.mono (by decide)) (by rfl) T.g_starts_from T.F_starts_from.kp T.b_starts_from .nil pass0 (pa_cons (pv 0) (pa_cons (pv 1) (pa_cons (pv 2) pa_nil)))))
(pss_cons (ps_expr (pe_call (ok_check_ball T) (hr.mono (by decide)) (by rfl) T.g_check_ball T.F_check_ball.kp T.b_check_ball .nil pass0 (pa_cons (pv 0) (pa_cons (pv 3) pa_nil))))
(pss_cons (ps_set (i := 5) sc_meeting_aims.nd rfl (Or.inl rfl) (pe_lst pa_nil))
(pss_cons (ps_for PassesOwn.never rfl (kpi_list K rfl (pv 4)) (pg_name (i := 6) sc_meeting_aims.nd rfl (Or.inl rfl))
(pss_cons (ps_set (i := 7) sc_meeting_aims.nd rfl (Or.inl rfl) (pe_meth (pe_call (ok_meetings T) (hr.mono (by decide)) (by rfl) T.g_meetings T.F_meetings.kp T.b_meetings .nil pass0 (pa_cons (pv 0) (pa_cons (pv 6) (pa_cons (pv 3) pa_nil)))) T.c_Times T.M_Times_next_from (ok_Times_next_from T) (hr.mono (by decide)) T.b_Times_next_from .nil pass0 (pa_cons pe_int pa_nil)))
(pss_one (ps_if (pt_cmpR op_notN (pv 7) pe_non (nomark _))
(pss_one (kps_app K rfl (pv 5) (pa_cons (pe_tup (pa_cons (pv 7) (pa_cons (pe_slice (ksl_tup K) (pv 6) (po_some pe_int) (po_some pe_int)) pa_nil))) pa_nil)))
pss_nil))))
(pss_one (ps_ret (pe_callB (id := "sorted") (kc_sorted K rfl hr.units) (by rfl) T.z_sorted (by decide +kernel) (pa_cons (pv 5) pa_nil)))))))), fun y hy => ?_⟩
  obtain ⟨ht, on, m0, m1, hc⟩ := hy
  refine q_asg (ev_call (⟨y.w, y.h, y.ps, y.p, y.m⟩ : StA) (ea_cons (ev_var rfl) (ea_cons (ev_var rfl) (ea_cons (ev_var rfl) ea_nil))) ⟨ht, on, m0, m1⟩) ?_
  refine q_drop (ev_call (⟨y.w, y.h, y.ps, y.c⟩ : BalA) (ea_cons (ev_var rfl) (ea_cons (ev_var rfl) ea_nil)) hc) ?_
  refine q_new (K := K) ?_
  refine sj_seq (M := fun Δ' => ∃ s6 s7, Δ' = [.val (TabR K T.C_Table y.w y.h y.ps), .val (Dat K (datP y.p)), .val (Dat K (.int y.m)), .val (Dat K (ballD y.c)), .val (Dat K (.list (dirs.map fun d => ballD (aimB y.p y.m d)))), .opn (OLst K ((meeL y).map minD)), s6, s7])
    (sj_forL (ds := dirs.map fun d => ballD (aimB y.p y.m d)) (ev_var rfl) (fun i Δ' => ∃ s6 s7, Δ' = [.val (TabR K T.C_Table y.w y.h y.ps), .val (Dat K (datP y.p)), .val (Dat K (.int y.m)), .val (Dat K (ballD y.c)), .val (Dat K (.list (dirs.map fun d => ballD (aimB y.p y.m d)))), .opn (OLst K (((dirs.take i).filterMap (meeOne y)).map minD)), s6, s7]) ⟨_, _, rfl⟩ (fun i d Δ' hd hP => ?_) (fun Δ' hP => ?_)) ?_
  · obtain ⟨s6, s7, rfl⟩ := hP
    obtain ⟨d, hp, rfl⟩ := map_get hd
    have md := List.mem_of_getElem? hp
    have to : TwoOk ⟨y.w, y.h, y.ps, aimB y.p y.m d, y.c⟩ := ⟨ht, aim_ok on m0 m1 md, hc⟩
    have hnx := mtF_ok to
    refine ⟨_, _, gj_name, ?_⟩
    refine q_asg (R := Dat K (optI (nxt (MtPr y.w y.h (aimB y.p y.m d) y.c) (maxI y.m y.c.m)))) ((ev_meth (⟨maxI y.m y.c.m, mtF ⟨y.w, y.h, y.ps, aimB y.p y.m d, y.c⟩, 0, 4, MtPr y.w y.h (aimB y.p y.m d) y.c⟩ : NxA) (ev_call (⟨y.w, y.h, y.ps, aimB y.p y.m d, y.c⟩ : TwoA) (ea_cons (ev_var rfl) (ea_cons (ev_var rfl) (ea_cons (ev_var rfl) ea_nil))) to) (hasM_ins rfl) (ea_cons ev_int ea_nil) rfl ⟨(by decide : (4 : Nat) ≤ 64), hnx⟩).cast (by unfold nxR; rw [maxI_0 m0])) ?_
    have hlen := fm_len (meeOne y) dirs i
    have hl8 : (((dirs.take i).filterMap (meeOne y)).map minD).length < sizeLine := by
      rw [List.length_map]
      exact Nat.lt_of_le_of_lt hlen (by decide)
    dsimp only
    rw [fm_take (meeOne y) dirs i d hp]
    have e1 : meeOne y d = match nxt (MtPr y.w y.h (aimB y.p y.m d) y.c) (maxI y.m y.c.m) with
      | none => none
      | some t => some (t, d) := rfl
    rw [e1]
    generalize nxt (MtPr y.w y.h (aimB y.p y.m d) y.c) (maxI y.m y.c.m) = f
    match f with
    | none =>
      refine sj_ifF (et_test (ev_notN (K := K) (d := .none) (ev_var rfl) ev_non)) rfl (sj_next ?_)
      dsimp only
      rw [Option.toList_none, List.append_nil]
      exact ⟨_, _, rfl⟩
    | some t =>
      refine sj_ifT (et_test (ev_notN (K := K) (d := .int t) (ev_var rfl) ev_non)) rfl ?_
      refine sj_app (d := minD (t, d)) rfl (ev_tup (ds := [.int t, datP d]) (ea_cons (ev_var rfl) (ea_cons (ev_sl35 (b := aimB y.p y.m d) (ev_var rfl)) ea_nil)) (by show 2 ≤ sizeLine; decide)) hl8 ?_
      dsimp only
      rw [Option.toList_some, List.map_append]
      exact ⟨_, _, rfl⟩
  · obtain ⟨s6, s7, rfl⟩ := hP
    rw [List.length_map, List.take_length]
    exact ⟨_, _, rfl⟩
  · rintro Δ' ⟨s6, s7, rfl⟩
    refine sj_frz (i := 5) rfl ?_
    exact sj_retD (ev_cb (ea_cons (ev_var rfl) ea_nil) cb_sortM) rfl rfl
/-! ### in_order -/
structure OrdA where
  w : Int
  h : Int
  ps : List Pt
  b : Bal
  pts : List Pt
structure OrdOk (y : OrdA) : Prop where
  t : TbOk y.w y.h
  b : BalOk y.w y.h y.b
  on : ∀ p ∈ y.pts, onT y.w y.h p = true
  few : y.pts.length ≤ 100
noncomputable def ordF (w h : Int) (b : Bal) : List Pt → Int → Option (List Int)
  | [], _ => some []
  | p :: ps, lo => match nxt (PtPr w h b p) (maxI lo b.m) with
    | none => none
    | some t => (ordF w h b ps (t + 1)).map (t :: ·)
def ordD : Option (List Int) → PyData
  | none => .none
  | some l => .list (l.map .int)
def argsOr (K : PySem.W.Frag) (C : Addr) (y : OrdA) : List RR := [TabR K C y.w y.h y.ps, Dat K (ballD y.b), Dat K (.list (y.pts.map datP))]
def sp_in_order (K : PySem.W.Frag) (C : Addr) : Sp := spOf (argsOr K C) OrdOk (fun y => Dat K (ordD (ordF y.w y.h y.b y.pts y.b.m)))
theorem ok_in_order (T : TX K mg) : FnOk P w K mg base CX0 5 T.f_in_order T.d_in_order p_in_order (sp_in_order K T.C_Table) := by
  refine fn_ok T.F_in_order sc_in_order (fun _ => rfl) fun cdv A outer s H E hr => ⟨_, (pss_cons (ps_expr (pe_call (ok_check_ball T) (hr.mono (by decide)) (by rfl) T.g_check_ball T.F_check_ball.kp T.b_check_ball .nil pass0 (pa_cons (pv 0) (pa_cons (pv 1) pa_nil))))
(pss_cons (ps_for PassesOwn.never rfl (kpi_list K rfl (pv 2)) (pg_name (i := 3) sc_in_order.nd rfl (Or.inl rfl))
(pss_one (ps_expr (pe_meth (pv 0) T.c_Table T.M_Table_check_point (ok_Table_check_point T) (hr.mono (by decide)) T.b_Table_check_point .nil pass0 (pa_cons (pv 3) pa_nil)))))
(pss_cons (ps_set (i := 4) sc_in_order.nd rfl (Or.inl rfl) (pe_lst pa_nil))
(pss_cons (ps_set (i := 5) sc_in_order.nd rfl (Or.inl rfl) (pe_ix (kix_tup K) (pv 1) pe_int (fun _ _ => rfl)))
(pss_cons (ps_for PassesOwn.never rfl (kpi_list K rfl (pv 2)) (pg_name (i := 3) sc_in_order.nd rfl (Or.inl rfl))
(pss_cons (ps_set (i := 6) sc_in_order.nd rfl (Or.inl rfl) (pe_meth (pe_call (ok_at_point T) (hr.mono (by decide)) (by rfl) T.g_at_point T.F_at_point.kp T.b_at_point .nil pass0 (pa_cons (pv 0) (pa_cons (pv 1) (pa_cons (pv 3) pa_nil)))) T.c_Times T.M_Times_next_from (ok_Times_next_from T) (hr.mono (by decide)) T.b_Times_next_from .nil pass0 (pa_cons (pv 5) pa_nil)))
(pss_cons (ps_if (pt_cmpR op_isN (pv 6) pe_non (nomark _))
(pss_one (ps_ret pe_non))
pss_nil)
(pss_cons (kps_app K rfl (pv 4) (pa_cons (pv 6) pa_nil))
(pss_one (ps_set (i := 5) sc_in_order.nd rfl (Or.inl rfl) (pe_op op_add (pv 6) pe_int)))))))
(pss_one (ps_ret (pv 4)))))))), fun y hy => ?_⟩
  obtain ⟨tw, th, ps, b, pts⟩ := y
  obtain ⟨ht, hb, on, few⟩ := hy
  simp only at ht hb on few
  have eb : ∀ {Δ : List Slot}, Δ[1]? = some (.val (Dat K (ballD b))) → EvR (tVar 1) Δ (Dat K (.tuple [.str b.n, .int b.x, .int b.y, .int b.dx, .int b.dy, .int b.m])) := fun h => ev_var h
  refine q_drop (ev_call (⟨tw, th, ps, b⟩ : BalA) (ea_cons (ev_var rfl) (ea_cons (ev_var rfl) ea_nil)) hb) ?_
  refine sj_seq (M := fun Δ' => ∃ s3, Δ' = [.val (TabR K T.C_Table tw th ps), .val (Dat K (ballD b)), .val (Dat K (.list (pts.map datP))), s3, .no, .no, .no])
    (sj_forL (ds := pts.map datP) (ev_var rfl) (fun i Δ' => ∃ s3, Δ' = [.val (TabR K T.C_Table tw th ps), .val (Dat K (ballD b)), .val (Dat K (.list (pts.map datP))), s3, .no, .no, .no]) ⟨_, rfl⟩ (fun i d Δ' hd hP => ?_) (fun Δ' hP => hP)) ?_
  · obtain ⟨s3, rfl⟩ := hP
    obtain ⟨p, hp, rfl⟩ := map_get hd
    exact ⟨_, _, gj_name, sj_drop (ev_meth (⟨tw, th, ps, p⟩ : TabA) (ev_var rfl) (hasM_ins rfl) (ea_cons (ev_var rfl) ea_nil) rfl (on p (List.mem_of_getElem? hp))) ⟨_, rfl⟩⟩
  · rintro Δ' ⟨s3, rfl⟩
    refine q_new (K := K) ?_
    refine q_asg (ev_ixT (eb rfl) ev_int rfl) ?_
    show SJ _ _ (retA (Dat K (ordD (ordF tw th b pts b.m))))
    refine sj_seq (M := fun Δ' => ∃ acc lo s3 s6, Δ' = [.val (TabR K T.C_Table tw th ps), .val (Dat K (ballD b)), .val (Dat K (.list (pts.map datP))), s3, .opn (OLst K (acc.map .int)), .val (Dat K (.int lo)), s6] ∧ ordF tw th b pts b.m = some acc)
      (sj_forL (ds := pts.map datP) (ev_var rfl) (fun i Δ' => ∃ acc lo s3 s6, Δ' = [.val (TabR K T.C_Table tw th ps), .val (Dat K (ballD b)), .val (Dat K (.list (pts.map datP))), s3, .opn (OLst K (acc.map .int)), .val (Dat K (.int lo)), s6] ∧ acc.length = i ∧ ordF tw th b pts b.m = (ordF tw th b (pts.drop i) lo).map (acc ++ ·))
        ⟨[], b.m, _, _, rfl, rfl, by rw [List.drop_zero]; cases ordF tw th b pts b.m <;> rfl⟩ (fun i d Δ' hd hP => ?_) (fun Δ' hP => ?_)) ?_
    · obtain ⟨acc, lo, s3, s6, rfl, hl, ho⟩ := hP
      obtain ⟨p, hp, rfl⟩ := map_get hd
      have onp := on p (List.mem_of_getElem? hp)
      have hi : i < pts.length := (List.getElem?_eq_some_iff.mp hp).1
      have dr : pts.drop i = p :: pts.drop (i + 1) := by
        rw [List.drop_eq_getElem_cons hi, (List.getElem?_eq_some_iff.mp hp).2]
      rw [dr] at ho
      have e1 : ordF tw th b (p :: pts.drop (i + 1)) lo = match nxt (PtPr tw th b p) (maxI lo b.m) with
        | none => none
        | some t => (ordF tw th b (pts.drop (i + 1)) (t + 1)).map (t :: ·) := rfl
      rw [e1] at ho
      have po : PtOk ⟨tw, th, ps, b, p⟩ := ⟨ht, hb, onp⟩
      have hnx := ptF_ok po
      refine ⟨_, _, gj_name, ?_⟩
      refine q_asg (R := Dat K (optI (nxt (PtPr tw th b p) (maxI lo b.m)))) (ev_meth (⟨b.m, ptF ⟨tw, th, ps, b, p⟩, lo, 4, PtPr tw th b p⟩ : NxA) (ev_call (⟨tw, th, ps, b, p⟩ : PtA) (ea_cons (ev_var rfl) (ea_cons (ev_var rfl) (ea_cons (ev_var rfl) ea_nil))) po) (hasM_ins rfl) (ea_cons (ev_var rfl) ea_nil) rfl ⟨(by decide : (4 : Nat) ≤ 64), hnx⟩) ?_
      revert ho
      generalize nxt (PtPr tw th b p) (maxI lo b.m) = o
      intro ho
      match o, ho with
      | none, ho =>
        refine q_ifT (et_test (ev_isN (K := K) (d := .none) (ev_var rfl) ev_non)) rfl (sj_seqR (sj_retD ev_non rfl ?_))
        rw [ho]
        rfl
      | some t, ho =>
        refine q_ifF (et_test (ev_isN (K := K) (d := .int t) (ev_var rfl) ev_non)) rfl (sj_seqN ?_)
        refine q_app (d := .int t) rfl (ev_var rfl) (by rw [List.length_map, hl]; exact Nat.lt_of_lt_of_le hi (Nat.le_trans few (by decide))) ?_
        refine sj_asg (R := Dat K (.int (t + 1))) (ev_add (ev_var rfl) ev_int) ?_
        refine ⟨acc ++ [t], t + 1, _, _, by rw [List.map_append]; rfl, by rw [List.length_append, hl]; rfl, ?_⟩
        rw [ho]
        show Option.map (acc ++ ·) (Option.map (t :: ·) (ordF tw th b (pts.drop (i + 1)) (t + 1))) = _
        cases ordF tw th b (pts.drop (i + 1)) (t + 1) with
        | none => rfl
        | some l =>
          show some (acc ++ t :: l) = some (acc ++ [t] ++ l)
          rw [List.append_assoc]
          rfl
    · obtain ⟨acc, lo, s3, s6, rfl, hl, ho⟩ := hP
      refine ⟨acc, lo, s3, s6, rfl, ?_⟩
      rw [ho, List.length_map, List.drop_length]
      show some (acc ++ []) = some acc
      rw [List.append_nil]
    · rintro Δ' ⟨acc, lo, s3, s6, rfl, ho⟩
      refine sj_frz (i := 4) rfl ?_
      refine sj_retD (ev_var rfl) rfl ?_
      rw [ho]
      rfl
/-! ### order_aims -/
def maxOf : Int → List Int → Int
  | a, [] => a
  | a, b :: l => if maxOf b l > a then maxOf b l else a
theorem maxOf_is : ∀ (a : Int) (l : List Int), IsMax (maxOf a l) (a :: l)
  | a, [] => ⟨by simp [maxOf], by simp [maxOf]⟩
  | a, b :: l => by
    have h := maxOf_is b l
    show IsMax (if maxOf b l > a then maxOf b l else a) (a :: b :: l)
    split
    · rename_i z
      exact ⟨List.mem_cons_of_mem _ h.1, fun y hy => by
        rcases List.mem_cons.mp hy with e | e
        · omega
        · exact h.2 y e⟩
    · rename_i z
      exact ⟨List.mem_cons_self, fun y hy => by
        rcases List.mem_cons.mp hy with e | e
        · omega
        · have := h.2 y e
          omega⟩
def maxDf (m : Int) : List Int → Int
  | [] => m
  | a :: l => maxOf a l
structure OraA where
  w : Int
  h : Int
  ps : List Pt
  p : Pt
  m : Int
  pts : List Pt
structure OraOk (y : OraA) : Prop where
  t : TbOk y.w y.h
  on : onT y.w y.h y.p = true
  m0 : 0 ≤ y.m
  m1 : y.m ≤ 1000000000000000000000000000000
  os : ∀ p ∈ y.pts, onT y.w y.h p = true
  few : y.pts.length ≤ 100
def argsOa (K : PySem.W.Frag) (C : Addr) (y : OraA) : List RR := [TabR K C y.w y.h y.ps, Dat K (datP y.p), Dat K (.int y.m), Dat K (.list (y.pts.map datP))]
noncomputable def oraOne (y : OraA) (d : Pt) : Option (Int × Pt) := match ordF y.w y.h (aimB y.p y.m d) y.pts y.m with
  | none => none
  | some l => some (maxDf y.m l, d)
noncomputable def oraL (y : OraA) : List (Int × Pt) := dirs.filterMap (oraOne y)
def sp_order_aims (K : PySem.W.Frag) (C : Addr) : Sp := spOf (argsOa K C) OraOk (fun y => Dat K (.list ((sortM (oraL y)).map minD)))
theorem ok_order_aims (T : TX K mg) : FnOk P w K mg base CX0 6 T.f_order_aims T.d_order_aims p_order_aims (sp_order_aims K T.C_Table) := by
  refine fn_ok T.F_order_aims sc_order_aims (fun _ => rfl) fun cdv A outer s H E hr => ⟨_, (pss_cons (ps_set (i := 4) sc_order_aims.nd rfl (Or.inl rfl) (pe_call (ok_starts_from T) (hr.mono (by decide)) (by rfl) T.g_starts_from T.F_starts_from.kp T.b_starts_from .nil pass0 (pa_cons (pv 0) (pa_cons (pv 1) (pa_cons (pv 2) pa_nil)))))
(pss_cons (ps_for PassesOwn.never rfl (kpi_list K rfl (pv 3)) (pg_name (i := 5) sc_order_aims.nd rfl (Or.inl rfl))
(pss_one (ps_expr (pe_meth (pv 0) T.c_Table T.M_Table_check_point (ok_Table_check_point T) (hr.mono (by decide)) T.b_Table_check_point .nil pass0 (pa_cons (pv 5) pa_nil)))))
(pss_cons (ps_set (i := 6) sc_order_aims.nd rfl (Or.inl rfl) (pe_lst pa_nil))
(pss_cons (ps_for PassesOwn.never rfl (kpi_list K rfl (pv 4)) (pg_name (i := 7) sc_order_aims.nd rfl (Or.inl rfl))
(pss_cons (ps_set (i := 8) sc_order_aims.nd rfl (Or.inl rfl) (pe_call (ok_in_order T) (hr.mono (by decide)) (by rfl) T.g_in_order T.F_in_order.kp T.b_in_order .nil pass0 (pa_cons (pv 0) (pa_cons (pv 7) (pa_cons (pv 3) pa_nil)))))
(pss_one (ps_if (pt_cmpR op_notN (pv 8) pe_non (nomark _))
(pss_one (kps_app K rfl (pv 6) (pa_cons (pe_tup (pa_cons (pe_callBK (id := "max") (kc_maxD K rfl rfl) (by rfl) T.z_max (by decide +kernel) (pa_cons (pv 8) pa_nil) (pk_cons (pv 2) pk_nil)) (pa_cons (pe_slice (ksl_tup K) (pv 7) (po_some pe_int) (po_some pe_int)) pa_nil))) pa_nil)))
pss_nil))))
(pss_one (ps_ret (pe_callB (id := "sorted") (kc_sorted K rfl hr.units) (by rfl) T.z_sorted (by decide +kernel) (pa_cons (pv 6) pa_nil)))))))), fun y hy => ?_⟩
  obtain ⟨ht, on, m0, m1, os, few⟩ := hy
  refine q_asg (ev_call (⟨y.w, y.h, y.ps, y.p, y.m⟩ : StA) (ea_cons (ev_var rfl) (ea_cons (ev_var rfl) (ea_cons (ev_var rfl) ea_nil))) ⟨ht, on, m0, m1⟩) ?_
  refine sj_seq (M := fun Δ' => ∃ s5, Δ' = [.val (TabR K T.C_Table y.w y.h y.ps), .val (Dat K (datP y.p)), .val (Dat K (.int y.m)), .val (Dat K (.list (y.pts.map datP))), .val (Dat K (.list (dirs.map fun d => ballD (aimB y.p y.m d)))), s5, .no, .no, .no])
    (sj_forL (ds := y.pts.map datP) (ev_var rfl) (fun i Δ' => ∃ s5, Δ' = [.val (TabR K T.C_Table y.w y.h y.ps), .val (Dat K (datP y.p)), .val (Dat K (.int y.m)), .val (Dat K (.list (y.pts.map datP))), .val (Dat K (.list (dirs.map fun d => ballD (aimB y.p y.m d)))), s5, .no, .no, .no]) ⟨_, rfl⟩ (fun i d Δ' hd hP => ?_) (fun Δ' hP => hP)) ?_
  · obtain ⟨s5, rfl⟩ := hP
    obtain ⟨p, hp, rfl⟩ := map_get hd
    exact ⟨_, _, gj_name, sj_drop (ev_meth (⟨y.w, y.h, y.ps, p⟩ : TabA) (ev_var rfl) (hasM_ins rfl) (ea_cons (ev_var rfl) ea_nil) rfl (os p (List.mem_of_getElem? hp))) ⟨_, rfl⟩⟩
  rintro Δ' ⟨s5, rfl⟩
  refine q_new (K := K) ?_
  refine sj_seq (M := fun Δ' => ∃ s7 s8, Δ' = [.val (TabR K T.C_Table y.w y.h y.ps), .val (Dat K (datP y.p)), .val (Dat K (.int y.m)), .val (Dat K (.list (y.pts.map datP))), .val (Dat K (.list (dirs.map fun d => ballD (aimB y.p y.m d)))), s5, .opn (OLst K ((oraL y).map minD)), s7, s8])
    (sj_forL (ds := dirs.map fun d => ballD (aimB y.p y.m d)) (ev_var rfl) (fun i Δ' => ∃ s7 s8, Δ' = [.val (TabR K T.C_Table y.w y.h y.ps), .val (Dat K (datP y.p)), .val (Dat K (.int y.m)), .val (Dat K (.list (y.pts.map datP))), .val (Dat K (.list (dirs.map fun d => ballD (aimB y.p y.m d)))), s5, .opn (OLst K (((dirs.take i).filterMap (oraOne y)).map minD)), s7, s8]) ⟨_, _, rfl⟩ (fun i d Δ' hd hP => ?_) (fun Δ' hP => ?_)) ?_
  · obtain ⟨s7, s8, rfl⟩ := hP
    obtain ⟨d, hp, rfl⟩ := map_get hd
    have md := List.mem_of_getElem? hp
    refine ⟨_, _, gj_name, ?_⟩
    refine q_asg (R := Dat K (ordD (ordF y.w y.h (aimB y.p y.m d) y.pts y.m))) (ev_call (⟨y.w, y.h, y.ps, aimB y.p y.m d, y.pts⟩ : OrdA) (ea_cons (ev_var rfl) (ea_cons (ev_var rfl) (ea_cons (ev_var rfl) ea_nil))) ⟨ht, aim_ok on m0 m1 md, os, few⟩) ?_
    have hlen := fm_len (oraOne y) dirs i
    have hl8 : (((dirs.take i).filterMap (oraOne y)).map minD).length < sizeLine := by
      rw [List.length_map]
      exact Nat.lt_of_le_of_lt hlen (by decide)
    dsimp only
    rw [fm_take (oraOne y) dirs i d hp]
    have e1 : oraOne y d = match ordF y.w y.h (aimB y.p y.m d) y.pts y.m with
      | none => none
      | some l => some (maxDf y.m l, d) := rfl
    rw [e1]
    generalize ordF y.w y.h (aimB y.p y.m d) y.pts y.m = f
    match f with
    | none =>
      refine sj_ifF (et_test (ev_notN (K := K) (d := .none) (ev_var rfl) ev_non)) rfl (sj_next ?_)
      dsimp only
      rw [Option.toList_none, List.append_nil]
      exact ⟨_, _, rfl⟩
    | some l =>
      refine sj_ifT (et_test (ev_notN (K := K) (d := .list (l.map .int)) (ev_var rfl) ev_non)) rfl ?_
      refine sj_app (d := minD (maxDf y.m l, d)) rfl (ev_tup (ds := [.int (maxDf y.m l), datP d]) (ea_cons (ev_maxD (ns := l) (d := y.m) (m := maxDf y.m l) (ea_cons (ev_var rfl) ea_nil) (ea_cons (ev_var rfl) ea_nil) (fun h => by rw [h]; rfl) (fun h => by
        cases l with
        | nil => exact absurd rfl h
        | cons a l => exact maxOf_is a l)) (ea_cons (ev_sl35 (b := aimB y.p y.m d) (ev_var rfl)) ea_nil)) (by show 2 ≤ sizeLine; decide)) hl8 ?_
      dsimp only
      rw [Option.toList_some, List.map_append]
      exact ⟨_, _, rfl⟩
  · obtain ⟨s7, s8, rfl⟩ := hP
    rw [List.length_map, List.take_length]
    exact ⟨_, _, rfl⟩
  · rintro Δ' ⟨s7, s8, rfl⟩
    refine sj_frz (i := 6) rfl ?_
    exact sj_retD (ev_cb (ea_cons (ev_var rfl) ea_nil) cb_sortM) rfl rfl
end CU
/-! M3: what the law's own defs count, in plain Lean. -/
namespace CU
open PySem PySem.Spec PyProof.Rows L2 DL
def flip (w x d : Int) : Int := if x + d < 0 ∨ x + d > w then -d else d
def stp (w : Int) (s : Int × Int) : Int × Int := (s.1 + flip w s.1 s.2, flip w s.1 s.2)
def itS (w x d : Int) : Nat → Int × Int
  | 0 => (x, d)
  | k + 1 => stp w (itS w x d k)
def psF (w h : Int) (b : Bal) (k : Nat) : Pt := ((itS w b.x b.dx k).1, (itS h b.y b.dy k).1)
def fxF (w : Int) (s : Int × Int) : Int := flip w s.1 s.2
def rowD (w h : Int) (b : Bal) (k : Nat) : PyData := .tuple [.int (itS w b.x b.dx k).1, .int (itS h b.y b.dy k).1, .int (fxF w (itS w b.x b.dx k)), .int (fxF h (itS h b.y b.dy k))]
/-- the first of n turns of which p holds -/
def firstK (n : Nat) (p : Nat → Bool) : Option Nat := (List.range n).find? p
theorem firstK_some {n k : Nat} {p : Nat → Bool} (h1 : p k = true) (h2 : k < n) (h3 : ∀ j, j < k → p j = false) : firstK n p = some k := by
  unfold firstK
  rw [List.find?_range_eq_some]
  exact ⟨h1, List.mem_range.mpr h2, fun j hj => by rw [h3 j hj]; rfl⟩
theorem firstK_none {n : Nat} {p : Nat → Bool} (h : ∀ j, j < n → p j = false) : firstK n p = none := by
  unfold firstK
  rw [List.find?_range_eq_none]
  exact fun j hj => by rw [h j hj]; rfl
theorem firstK_inv {n : Nat} {p : Nat → Bool} : (firstK n p = none ∧ ∀ j, j < n → p j = false) ∨ ∃ k, firstK n p = some k ∧ p k = true ∧ k < n ∧ ∀ j, j < k → p j = false := by
  cases h : firstK n p with
  | none =>
    unfold firstK at h
    rw [List.find?_range_eq_none] at h
    exact Or.inl ⟨rfl, fun j hj => by have := h j hj; simpa using this⟩
  | some k =>
    unfold firstK at h
    rw [List.find?_range_eq_some] at h
    exact Or.inr ⟨k, rfl, h.1, List.mem_range.mp h.2.1, fun j hj => by have := h.2.2 j hj; simpa using this⟩
def lawFall (w h : Int) (ps : List Pt) (b : Bal) : Option Int := (firstK (4 * w * h + 1).toNat fun k => decide (psF w h b k ∈ ps)).map fun k : Nat => b.m + (k : Int)
def lawMin (w h : Int) (b : Bal) (p : Pt) (n : Nat) : List Int := ((List.range n).filter fun k => decide (psF w h b k = p)).map fun k : Nat => b.m + (k : Int)
def lawOrd (n : Nat) (pos : Nat → Pt) (m : Int) : List Pt → Nat → Option (List Int)
  | [], _ => some []
  | p :: ps, fol => match firstK (n - fol) (fun i => decide (pos (fol + i) = p)) with
    | none => none
    | some i => (lawOrd n pos m ps (fol + i + 1)).map ((m + ((fol + i : Nat) : Int)) :: ·)
def lawIn (w h : Int) (b : Bal) (pts : List Pt) : Option (List Int) := lawOrd (4 * w * h * (1 + (pts.length : Int)) + 1).toNat (psF w h b) b.m pts 0
def redB (p : Pt) (m : Int) (d : Pt) : Bal := ⟨"red", p.1, p.2, d.1, d.2, m⟩
structure DueA where
  w : Int
  h : Int
  ps : List Pt
  p : Pt
  m : Int
  k : Pt
  pts : List Pt
def dueFall (y : DueA) (d : Pt) : Option (Int × Pt) := match lawFall y.w y.h y.ps (redB y.p y.m d) with
  | none => none
  | some t => if t ∈ lawMin y.w y.h (redB y.p y.m d) y.k (t - y.m + 1).toNat then some (t, d) else none
def dueOrd (y : DueA) (d : Pt) : Option (Int × Pt) := match lawIn y.w y.h (redB y.p y.m d) y.pts with
  | none => none
  | some l => some (maxDf 0 (l ++ [y.m]), d)
def blueB (p : Pt) (m : Int) (d : Pt) : Bal := ⟨"blue", p.1, p.2, d.1, d.2, m⟩
def lawMeet (w h : Int) (b c : Bal) : Option Int := (firstK (4 * w * h).toNat fun i => decide (psF w h b (maxI b.m c.m + (i : Int) - b.m).toNat = psF w h c (maxI b.m c.m + (i : Int) - c.m).toNat)).map fun i : Nat => maxI b.m c.m + (i : Int)
structure MetA where
  w : Int
  h : Int
  p : Pt
  m : Int
  c : Bal
def metOne (y : MetA) (d : Pt) : Option (Int × Pt) := match lawMeet y.w y.h (blueB y.p y.m d) y.c with
  | none => none
  | some t => some (t, d)
end CU
/-! F9: the law's own numbers, tables, balls, points. -/
namespace CU
open PySem PySem.Spec PyProof.Rows L2 DL
variable {P : Program} {w : World} {K : PySem.W.Frag} {mg : Str → Option Value} {base : Heap}
def small (n : Int) : Prop := 0 ≤ n ∧ n < 1009
theorem small_mod9 (z : Int) : small (z % 1009) := ⟨Int.emod_nonneg _ (by decide), Int.emod_lt_of_pos _ (by decide)⟩
def NumsR (K : PySem.W.Frag) (L : Nat) : RR := ExR fun ns : List Int => AndR (ns.length = L ∧ ∀ n ∈ ns, small n) (Dat K (.list (ns.map .int)))
theorem app_small {l : List Int} {z : Int} (h : ∀ n ∈ l, small n) (hz : small z) : ∀ n ∈ l ++ [z], small n := fun n hn => by
  rcases List.mem_append.mp hn with e | e
  · exact h n e
  · rw [List.mem_singleton.mp e]
    exact hz
/-! ### row -/
def argsII (K : PySem.W.Frag) (y : Int × Int) : List RR := [Dat K (.int y.1), Dat K (.int y.2)]
def sp__law_row (K : PySem.W.Frag) : Sp := spOf (argsII K) (fun y => 0 ≤ y.2 ∧ y.2 ≤ 100) (fun y => NumsR K y.2.toNat)
theorem ok__law_row (T : TX K mg) : FnOk P w K mg base CX0 1 T.f__law_row T.d__law_row p__law_row (sp__law_row K) := by
  refine fn_ok T.F__law_row sc__law_row (fun _ => rfl) fun cdv A outer s H E hr => ⟨_, (pss_cons (ps_set (i := 2) sc__law_row.nd rfl (Or.inl rfl) (pe_lst pa_nil))
(pss_cons (ps_set (i := 3) sc__law_row.nd rfl (Or.inl rfl) (pe_callB (id := "abs") call_abs (by rfl) T.z_abs (by decide +kernel) (pa_cons (pv 0) pa_nil)))
(pss_cons (ps_set (i := 4) sc__law_row.nd rfl (Or.inl rfl) (pe_op op_mod (pe_callTy (T := "int") call_int1 (by rfl) T.z_int (by decide +kernel) (pa_cons (pe_op op_add (pe_op op_mul (pv 3) pe_int) pe_int) pa_nil)) pe_int))
(pss_cons (ps_for PassesOwn.never rfl (pi_range1 (by rfl) T.z_range (pa_cons (pv 1) pa_nil)) (pg_name (i := 5) sc__law_row.nd rfl (Or.inl rfl))
(pss_cons (ps_set (i := 4) sc__law_row.nd rfl (Or.inl rfl) (pe_op op_mod (pe_callTy (T := "int") call_int1 (by rfl) T.z_int (by decide +kernel) (pa_cons (pe_op op_add (pe_op op_mul (pv 4) pe_int) (pe_op op_mul pe_int (pe_op op_add (pv 5) pe_int))) pa_nil)) pe_int))
(pss_one (ps_if (pt_cmpR op_ge (pe_callB (id := "abs") call_abs (by rfl) T.z_abs (by decide +kernel) (pa_cons (pv 0) pa_nil)) (pe_op op_pow pe_int pe_int) (nomark _))
(pss_cons (kps_app K rfl (pv 2) (pa_cons (pe_op op_mod (pe_callTy (T := "int") call_int1 (by rfl) T.z_int (by decide +kernel) (pa_cons (pv 3) pa_nil)) pe_int) pa_nil))
(pss_one (ps_set (i := 3) sc__law_row.nd rfl (Or.inl rfl) (pe_op op_fdiv (pv 3) pe_int))))
(pss_one (kps_app K rfl (pv 2) (pa_cons (pe_op op_mod (pe_callTy (T := "int") call_int1 (by rfl) T.z_int (by decide +kernel) (pa_cons (pe_op op_fdiv (pv 4) pe_int) pa_nil)) pe_int) pa_nil)))))))
(pss_one (ps_ret (pv 2))))))), fun y hy => ?_⟩
  obtain ⟨c, many⟩ := y
  obtain ⟨m0, m1⟩ := hy
  simp only at m0 m1
  have v {Δ : List Slot} {i : Nat} {z : Int} (h : Δ[i]? = some (.val (Dat K (.int z)))) : EvR (tVar i) Δ (Dat K (.int z)) := ev_var h
  have cm {a b : Int} (h : -(2 ^ 64) < b ∧ b < 2 ^ 64) : CMul a b := Or.inr h
  have cl {a b : Int} (h : -(2 ^ 64) < a ∧ a < 2 ^ 64) : CMul a b := Or.inl h
  refine q_new (K := K) ?_
  refine q_asg (ev_cb (ea_cons (v rfl) ea_nil) cb_abs) ?_
  refine q_asg (ev_mod (ev_cb (ea_cons (ev_add (ev_mul (v rfl) ev_int (cm ⟨by decide, by decide⟩)) ev_int) ea_nil) cb_int) ev_int (by decide)) ?_
  refine sj_seq (M := fun Δ' => ∃ (ns : List Int) (s3 s4 s5 : Slot), Δ' = [.val (Dat K (.int c)), .val (Dat K (.int many)), .opn (OLst K (ns.map .int)), s3, s4, s5] ∧ ns.length = many.toNat ∧ ∀ n ∈ ns, small n)
    (sj_forR1 (n := many) (ea_cons (v rfl) ea_nil) ⟨by omega, by omega⟩ (fun i Δ' => ∃ (ns : List Int) (rest mixed : Int) (s5 : Slot), Δ' = [.val (Dat K (.int c)), .val (Dat K (.int many)), .opn (OLst K (ns.map .int)), .val (Dat K (.int rest)), .val (Dat K (.int mixed)), s5] ∧ ns.length = i ∧ ∀ n ∈ ns, small n)
      ⟨[], _, _, _, rfl, rfl, fun _ h => by cases h⟩ (fun i Δ' hi hP => ?_) (fun Δ' hP => ?_)) ?_
  · obtain ⟨ns, rest, mixed, s5, rfl, hl, hs⟩ := hP
    refine ⟨_, _, gj_name, ?_⟩
    refine q_asg (ev_mod (ev_cb (ea_cons (ev_add (ev_mul (v rfl) ev_int (cm ⟨by decide, by decide⟩)) (ev_mul ev_int (ev_add (v rfl) ev_int) (cl ⟨by decide, by decide⟩))) ea_nil) cb_int) ev_int (by decide)) ?_
    have hz : (ns.map PyData.int).length < sizeLine := by
      rw [List.length_map, hl]
      exact Nat.lt_of_lt_of_le hi (Nat.le_trans (show many.toNat ≤ 100 by omega) (by decide))
    refine sj_if (et_test (ev_ge (ev_cb (ea_cons (v rfl) ea_nil) cb_abs) (ev_pow ev_int ev_int ⟨by decide, by decide, by decide⟩))) (fun _ => ?_) (fun _ => ?_)
    · refine q_app (d := .int (rest % 1009)) rfl (ev_mod (ev_cb (ea_cons (v rfl) ea_nil) cb_int) ev_int (by decide)) hz ?_
      refine sj_asg (ev_fdiv (v rfl) ev_int ⟨by decide, by decide⟩) ?_
      exact ⟨ns ++ [rest % 1009], _, _, _, by rw [List.map_append]; rfl, by rw [List.length_append, hl]; rfl, app_small hs (small_mod9 _)⟩
    · refine sj_app (d := .int _) rfl (ev_mod (ev_cb (ea_cons (ev_fdiv (v rfl) ev_int ⟨by decide, by decide⟩) ea_nil) cb_int) ev_int (by decide)) hz ?_
      exact ⟨ns ++ [_], _, _, _, by rw [List.map_append]; rfl, by rw [List.length_append, hl]; rfl, app_small hs (small_mod9 _)⟩
  · obtain ⟨ns, rest, mixed, s5, rfl, hl, hs⟩ := hP
    exact ⟨ns, _, _, _, rfl, hl, hs⟩
  · rintro Δ' ⟨ns, s3, s4, s5, rfl, hl, hs⟩
    refine sj_frz (i := 2) rfl ?_
    exact sj_ret (ev_var (R := Dat K (.list (ns.map .int))) rfl) fun G v h => ⟨ns, ⟨hl, hs⟩, h⟩
/-! ### numbers -/
theorem sm_lst {H H' : Hp} {a : Addr} {xs : List V} (e : Same H H') (h : SqL K H a xs) : SqL K H' a xs := by
  rcases h with h | h
  · exact Or.inl (sm_rd e h)
  · exact Or.inr h
def ScrR (K : PySem.W.Frag) (ns : List Int) : RR := ⟨fun G v => ∃ a, v = .ref a ∧ SqL K G a (ns.map V.int), fun e ⟨a, h1, h2⟩ => ⟨a, h1, sm_lst e h2⟩⟩
theorem rpa_ints {G : Hp} : ∀ ns : List Int, RpA K G (ns.map V.int) (ns.map .int)
  | [] => .nil
  | n :: ns => .cons (.int n) (rpa_ints ns)
theorem ev_slScr {ta : TE} {Δ : List Slot} {ns : List Int} {i : Nat} {th : TO} (ha : EvR ta Δ (ScrR K ns)) (h2 : EvO th Δ (some (i : Int))) : EvR (tSl (rSlL K) ta tNoPart th) Δ (Dat K (.list ((ns.take i).map .int))) := fun H0 G H σ e e0 S Q q =>
  ha H0 G H σ e e0 S _ fun x G1 H1 g1 p1 => h2 H0 G1 H1 σ g1.gh (e0.trans g1.hh) (S.grow g1) _ fun G2 H2 g2 => by
    obtain ⟨a, rfl, h3⟩ := p1
    have h4 : SqL K H2 a (ns.map V.int) := sm_lst (g1.gh.trans g2.hh) h3
    refine ⟨a, _, rfl, h4, fun p hp => ?_⟩
    have e1 : cutV (ns.map V.int) none (some (i : Int)) = (ns.take i).map V.int := by
      unfold cutV
      rw [HT.sIx_none, HT.sIx_nat, List.drop_zero, Nat.sub_zero, List.map_take, List.length_map]
      rcases Nat.le_total i ns.length with z | z
      · rw [Nat.min_eq_left z]
      · rw [Nat.min_eq_right z, List.take_of_length_le (by rw [List.length_map]; exact Nat.le_refl _), List.take_of_length_le (by rw [List.length_map]; exact z)]
    rw [e1]
    exact q _ (upd G2 p (.lst ((ns.take i).map V.int))) _ ((g1.trans g2).trans (Gr.new g2.gh hp)) (.lst upd_same (rpa_ints _))
theorem sj_forLX {α : Type} {Δ : List Slot} {A : AE} {tl : TE} {g : TG} {tu : TS} {c : α → Prop} {e : α → List PyData} (hl : EvR tl Δ (ExR fun x => AndR (c x) (Dat K (.list (e x))))) (Pr : α → Nat → List Slot → Prop) (h0 : ∀ x, c x → Pr x 0 Δ)
    (hs : ∀ x, c x → ∀ (i : Nat) (d : PyData) (Δ' : List Slot), (e x)[i]? = some d → Pr x i Δ' → ∃ Δ'' js, GJ g (Dat K d) Δ' Δ'' js ∧ SJ tu Δ'' ⟨Pr x (i + 1), A.rt, A.nx, Pr x (i + 1)⟩)
    (hd : ∀ x, c x → ∀ Δ', Pr x (e x).length Δ' → A.nx Δ') : SJ (tFor (iList K tl) g tu) Δ A := fun G0 H0 G H σ D gg s a =>
  hl H0 G H σ gg.gh gg.hh s _ fun v G1 H1 g1 p1 => by
    obtain ⟨y, cy, p1⟩ := p1
    obtain ⟨b, xs, rfl, h2, h3⟩ := Rp.isLst p1
    have gA : Gr G0 H0 G1 H1 := gg.trans g1
    refine ⟨b, rfl, ⟨xs, SqL.of (g1.gh _ _ h2)⟩, for_list (K := K) (xs := xs) (fun i σ' H' => ∃ G' Δ', Gr G1 H0 G' H' ∧ Sg H0 G' H' σ' Δ' ∧ Pr y i Δ') ⟨G1, Δ, ⟨gA.hh, Same.refl _, g1.gh, fun _ _ _ _ z => z⟩, s.grow g1, h0 y cy⟩ ?_ ?_ ?_⟩
    · rintro i σ' H' _ ⟨G', Δ', z, _, _⟩
      exact SqL.of (z.gh _ _ (z.gg _ _ h2))
    · rintro i x σ' H' hx ⟨G', Δ', z, s', p'⟩
      obtain ⟨d, hd1, hd2⟩ := h3.getV hx
      obtain ⟨Δ'', js, hg, hb⟩ := hs y cy i d Δ' hd1 p'
      refine hg H0 G' H' σ' x z.gh z.hh s' (Rp.mono z.gg _ _ hd2) _ fun σ2 S2 _ => ?_
      exact hb G1 H0 G' H' σ2 _ z S2 (aok_in (M := Pr y (i + 1)) (N := Pr y (i + 1)) (NN := fun _ _ => True) gA a fun σ3 G3 H3 Δ3 z3 s3 p3 => ⟨G3, Δ3, z3, s3, p3⟩)
    · rintro σ' H' ⟨G', Δ', z, s', p'⟩
      rw [h3.length] at p'
      exact a.nx σ' G' H' Δ' (gA.trans0 z) s' (hd y cy Δ' p')
def argsSc (K : PySem.W.Frag) (ns : List Int) : List RR := [ScrR K ns, Dat K (.int 50)]
def sp__law_numbers (K : PySem.W.Frag) : Sp := spOf (argsSc K) (fun _ => True) (fun _ => NumsR K 50)
theorem ok__law_numbers (T : TX K mg) : FnOk P w K mg base CX0 2 T.f__law_numbers T.d__law_numbers p__law_numbers (sp__law_numbers K) := by
  refine fn_ok T.F__law_numbers sc__law_numbers (fun _ => rfl) fun cdv A outer s H E hr => ⟨_, (pss_cons (ps_set (i := 2) sc__law_numbers.nd rfl (Or.inl rfl) (pe_slice (ksl_list K) (pv 0) po_none (po_some pe_int)))
(pss_cons (ps_set (i := 3) sc__law_numbers.nd rfl (Or.inl rfl) (pe_op op_add pe_int (pe_op op_fdiv (pv 1) (pe_callB (id := "max") (call_max2 rfl) (by rfl) T.z_max (by decide +kernel) (pa_cons pe_int (pa_cons (pe_callB (id := "len") (kc_len K) (by rfl) T.z_len (by decide +kernel) (pa_cons (pv 2) pa_nil)) pa_nil))))))
(pss_cons (ps_set (i := 4) sc__law_numbers.nd rfl (Or.inl rfl) (pe_lst pa_nil))
(pss_cons (ps_for PassesOwn.never rfl (kpi_list K rfl (pv 2)) (pg_name (i := 5) sc__law_numbers.nd rfl (Or.inl rfl))
(pss_one (ps_for PassesOwn.never rfl (kpi_list K rfl (pe_call (ok__law_row T) (hr.mono (by decide)) (by rfl) T.g__law_row T.F__law_row.kp T.b__law_row .nil pass0 (pa_cons (pv 5) (pa_cons (pv 3) pa_nil)))) (pg_name (i := 6) sc__law_numbers.nd rfl (Or.inl rfl))
(pss_one (kps_app K rfl (pv 4) (pa_cons (pv 6) pa_nil))))))
(pss_cons (ps_while PassesOwn.never (pt_cmpR op_lt (pe_callB (id := "len") (kc_len K) (by rfl) T.z_len (by decide +kernel) (pa_cons (pv 4) pa_nil)) (pv 1) (nomark _))
(pss_one (kps_app K rfl (pv 4) (pa_cons pe_int pa_nil))))
(pss_one (ps_ret (pe_slice (ksl_list K) (pv 4) po_none (po_some (pv 1)))))))))), fun ns _ => ?_⟩
  have v {Δ : List Slot} {i : Nat} {z : Int} (h : Δ[i]? = some (.val (Dat K (.int z)))) : EvR (tVar i) Δ (Dat K (.int z)) := ev_var h
  refine q_asg (ev_slScr (i := 63) (ev_var rfl) (eo_some (ev_int (K := K)))) ?_
  generalize hcs : ns.take 63 = cs
  have lcs : cs.length ≤ 63 := by
    rw [← hcs, List.length_take]
    omega
  have hdv : ∃ e : Int, (1 + 50 / (if ((cs.map PyData.int).length : Int) > 1 then ((cs.map PyData.int).length : Int) else 1)) = e ∧ 1 ≤ e ∧ e ≤ 51 ∧ 0 < (if ((cs.map PyData.int).length : Int) > 1 then ((cs.map PyData.int).length : Int) else 1) ∧ (if ((cs.map PyData.int).length : Int) > 1 then ((cs.map PyData.int).length : Int) else 1) < 1073741824 := by
    rw [List.length_map]
    have h1 : 0 < (if (cs.length : Int) > 1 then (cs.length : Int) else 1) := by split <;> omega
    refine ⟨_, rfl, ?_, ?_, h1, by split <;> omega⟩
    · have := Int.ediv_nonneg (show (0 : Int) ≤ 50 by decide) (Int.le_of_lt h1)
      omega
    · have := Int.ediv_le_self (if (cs.length : Int) > 1 then (cs.length : Int) else 1) (show (0 : Int) ≤ 50 by decide)
      omega
  obtain ⟨each, he, e1, e2, d1, d2⟩ := hdv
  refine q_asg (R := Dat K (.int each)) ((ev_add ev_int (ev_fdiv (v rfl) (ev_cb (ea_cons ev_int (ea_cons (ev_cb (ea_cons (ev_var rfl) ea_nil) kb_lenL) ea_nil)) cb_max2) ⟨d1, d2⟩)).cast (congrArg PyData.int he)) ?_
  refine q_new (K := K) ?_
  refine sj_seq (M := fun Δ' => ∃ (acc : List Int) (s5 s6 : Slot), Δ' = [.val (ScrR K ns), .val (Dat K (.int 50)), .val (Dat K (.list (cs.map .int))), .val (Dat K (.int each)), .opn (OLst K (acc.map .int)), s5, s6] ∧ acc.length ≤ 5000 ∧ ∀ n ∈ acc, small n)
    (sj_forL (ds := cs.map .int) (ev_var rfl) (fun i Δ' => ∃ (acc : List Int) (s5 s6 : Slot), Δ' = [.val (ScrR K ns), .val (Dat K (.int 50)), .val (Dat K (.list (cs.map .int))), .val (Dat K (.int each)), .opn (OLst K (acc.map .int)), s5, s6] ∧ acc.length ≤ i * 51 ∧ ∀ n ∈ acc, small n) ⟨[], _, _, rfl, Nat.zero_le _, fun _ h => by cases h⟩ (fun i d Δ' hd hP => ?_) (fun Δ' hP => ?_)) ?_
  · obtain ⟨acc, s5, s6, rfl, hl, hs⟩ := hP
    obtain ⟨c, hc, rfl⟩ := map_get hd
    have hi : i < cs.length := (List.getElem?_eq_some_iff.mp hc).1
    refine ⟨_, _, gj_name, ?_⟩
    refine sj_forLX (c := fun l : List Int => l.length = each.toNat ∧ ∀ n ∈ l, small n) (e := fun l => l.map .int) (ev_call ((c, each) : Int × Int) (ea_cons (v rfl) (ea_cons (v rfl) ea_nil)) ⟨by show 0 ≤ each; omega, by show each ≤ 100; omega⟩)
      (fun l j Δ' => ∃ (acc : List Int) (s5 s6 : Slot), Δ' = [.val (ScrR K ns), .val (Dat K (.int 50)), .val (Dat K (.list (cs.map .int))), .val (Dat K (.int each)), .opn (OLst K (acc.map .int)), s5, s6] ∧ acc.length ≤ i * 51 + j ∧ ∀ n ∈ acc, small n) (fun l _ => ⟨acc, _, _, rfl, by omega, hs⟩) (fun l hlx j d Δ' hd hP => ?_) (fun l hlx Δ' hP => ?_)
    · obtain ⟨acc, s5, s6, rfl, hl, hs⟩ := hP
      obtain ⟨z, hz, rfl⟩ := map_get hd
      have hj : j < l.length := (List.getElem?_eq_some_iff.mp hz).1
      refine ⟨_, _, gj_name, ?_⟩
      refine sj_app (d := .int z) rfl (v rfl) ?_ ?_
      · rw [List.length_map]
        rw [hlx.1] at hj
        exact Nat.lt_of_le_of_lt (show acc.length ≤ 5000 by omega) (by decide)
      · exact ⟨acc ++ [z], _, _, by rw [List.map_append]; rfl, by rw [List.length_append]; simp only [List.length_singleton]; omega, app_small hs (hlx.2 z (List.mem_of_getElem? hz))⟩
    · obtain ⟨acc, s5, s6, rfl, hl, hs⟩ := hP
      rw [List.length_map, hlx.1] at hl
      exact ⟨acc, _, _, rfl, by omega, hs⟩
  · obtain ⟨acc, s5, s6, rfl, hl, hs⟩ := hP
    rw [List.length_map] at hl
    exact ⟨acc, _, _, rfl, by omega, hs⟩
  · rintro Δ' ⟨acc, s5, s6, rfl, hl, hs⟩
    refine sj_seq (M := fun Δ' => ∃ (acc : List Int), Δ' = [.val (ScrR K ns), .val (Dat K (.int 50)), .val (Dat K (.list (cs.map .int))), .val (Dat K (.int each)), .opn (OLst K (acc.map .int)), s5, s6] ∧ 50 ≤ acc.length ∧ ∀ n ∈ acc, small n)
      (sj_while (fun k Δ' => ∃ (acc : List Int), Δ' = [.val (ScrR K ns), .val (Dat K (.int 50)), .val (Dat K (.list (cs.map .int))), .val (Dat K (.int each)), .opn (OLst K (acc.map .int)), s5, s6] ∧ k = 50 - acc.length ∧ acc.length ≤ 5000 ∧ ∀ n ∈ acc, small n) (50 - acc.length) ⟨acc, rfl, rfl, hl, hs⟩ (fun k Δ' hP => ?_)) ?_
    · obtain ⟨acc, rfl, hk, hl, hs⟩ := hP
      refine ⟨_, et_test (ev_lt (ev_peekL (K := K) (i := 4) (ds := acc.map .int) flat_int rfl (ev_cb (ea_cons (ev_var rfl) ea_nil) kb_lenL)) (v rfl)), fun hb => ?_, fun hb => ?_⟩
      · have hb' : ((acc.map PyData.int).length : Int) < 50 := of_decide_eq_true hb
        rw [List.length_map] at hb'
        refine sj_app (d := .int 0) rfl ev_int (by rw [List.length_map]; exact Nat.lt_of_le_of_lt hl (by decide)) ?_
        exact ⟨50 - (acc.length + 1), by omega, acc ++ [0], by rw [List.map_append]; rfl, by rw [List.length_append]; rfl, by rw [List.length_append]; simp only [List.length_singleton]; omega, app_small hs ⟨by decide, by decide⟩⟩
      · have hb' : ¬ ((acc.map PyData.int).length : Int) < 50 := of_decide_eq_false hb
        rw [List.length_map] at hb'
        exact ⟨acc, rfl, by omega, hs⟩
    · rintro Δ' ⟨acc, rfl, hl, hs⟩
      refine sj_frz (i := 4) rfl ?_
      refine sj_ret ((ev_slL (ev_var rfl) eo_none (eo_some (i := (50 : Nat)) (v rfl))).cast (d' := .list ((acc.take 50).map .int)) (congrArg PyData.list ?_)) fun G v h => ⟨acc.take 50, ⟨by rw [List.length_take]; omega, fun n hn => hs n (List.mem_of_mem_take hn)⟩, h⟩
      rw [cut_to _ _ (by rw [List.length_map]; exact hl), List.map_take]
/-! ### numbers read -/
structure NumOk (ns : List Int) : Prop where
  len : ns.length = 50
  sm : ∀ n ∈ ns, small n
def nAt (ns : List Int) (i : Int) : Int := ns.getD i.toNat 0
theorem nAt_get {ns : List Int} (h : NumOk ns) {i : Int} (h0 : 0 ≤ i) (h1 : i < 50) : ns[i.toNat]? = some (nAt ns i) := by
  unfold nAt
  have hl := h.len
  rw [List.getD_eq_getElem?_getD, List.getElem?_eq_getElem (by omega)]
  rfl
theorem nAt_small {ns : List Int} (h : NumOk ns) {i : Int} (h0 : 0 ≤ i) (h1 : i < 50) : small (nAt ns i) := h.sm _ (List.mem_of_getElem? (nAt_get h h0 h1))
theorem ev_num {ta tb : TE} {Δ : List Slot} {ns : List Int} {i : Int} (h : NumOk ns) (ha : EvR ta Δ (Dat K (.list (ns.map .int)))) (hb : EvR tb Δ (Dat K (.int i))) (h0 : 0 ≤ i := by decide) (h1 : i < 50 := by decide) : EvR (tOp (rIxL K) ta tb) Δ (Dat K (.int (nAt ns i))) := by
  refine ev_ixL ha hb ?_
  have e : i = ((i.toNat : Nat) : Int) := by omega
  rw [e]
  refine atI_nat ?_
  rw [List.getElem?_map, nAt_get h h0 h1, ← e]
  rfl
/-- int(numbers[i]) -/
theorem ev_intOf {tx : TE} {Δ : List Slot} {z : Int} (h : EvR tx Δ (Dat K (.int z))) : EvR (tCB (fun xs H Q => (∃ i, xs = [.int i] ∧ Q (.int i) H) ∨ ∃ k, xs = [.bl k] ∧ Q (.int (if k then 1 else 0)) H) (tCons tx tNil)) Δ (Dat K (.int z)) := ev_cb (ea_cons h ea_nil) cb_int
/-! ### a point -/
structure PoiA where
  ns : List Int
  i : Int
  w : Int
  h : Int
structure PoiOk (y : PoiA) : Prop where
  n : NumOk y.ns
  i0 : 0 ≤ y.i
  i1 : y.i < 40
  w1 : 1 ≤ y.w
  h1 : 1 ≤ y.h
def argsPi (K : PySem.W.Frag) (y : PoiA) : List RR := [Dat K (.list (y.ns.map .int)), Dat K (.int y.i), Dat K (.int y.w), Dat K (.int y.h)]
def PtR (K : PySem.W.Frag) (w h : Int) : RR := ExR fun p : Pt => AndR (onT w h p = true) (Dat K (datP p))
theorem onT_mod {w h a b : Int} (w1 : 1 ≤ w) (h1 : 1 ≤ h) : onT w h (a % (w + 1), b % (h + 1)) = true := by
  have a0 := Int.emod_nonneg a (show w + 1 ≠ 0 by omega)
  have a1 := Int.emod_lt_of_pos a (show 0 < w + 1 by omega)
  have b0 := Int.emod_nonneg b (show h + 1 ≠ 0 by omega)
  have b1 := Int.emod_lt_of_pos b (show 0 < h + 1 by omega)
  unfold onT
  simp only
  rw [decide_eq_true a0, decide_eq_true (show a % (w + 1) ≤ w by omega), decide_eq_true b0, decide_eq_true (show b % (h + 1) ≤ h by omega)]
  rfl
theorem onT_iff {w h : Int} {p : Pt} : onT w h p = true ↔ (0 ≤ p.1 ∧ p.1 ≤ w) ∧ 0 ≤ p.2 ∧ p.2 ≤ h := by
  unfold onT
  simp
def sp__law_point (K : PySem.W.Frag) : Sp := spOf (argsPi K) PoiOk (fun y => PtR K y.w y.h)
theorem ok__law_point (T : TX K mg) : FnOk P w K mg base CX0 1 T.f__law_point T.d__law_point p__law_point (sp__law_point K) := by
  refine fn_ok T.F__law_point sc__law_point (fun _ => rfl) fun cdv A outer s H E hr => ⟨_, (pss_one (ps_ret (pe_tup (pa_cons (pe_op op_mod (pe_callTy (T := "int") call_int1 (by rfl) T.z_int (by decide +kernel) (pa_cons (pe_ix (kix_list K) (pv 0) (pv 1) (fun _ _ => rfl)) pa_nil)) (pe_op op_add (pv 2) pe_int)) (pa_cons (pe_op op_mod (pe_callTy (T := "int") call_int1 (by rfl) T.z_int (by decide +kernel) (pa_cons (pe_ix (kix_list K) (pv 0) (pe_op op_add (pv 1) pe_int) (fun _ _ => rfl)) pa_nil)) (pe_op op_add (pv 3) pe_int)) pa_nil))))), fun y hy => ?_⟩
  obtain ⟨hn, i0, i1, w1, h1⟩ := hy
  have v {Δ : List Slot} {i : Nat} {z : Int} (h : Δ[i]? = some (.val (Dat K (.int z)))) : EvR (tVar i) Δ (Dat K (.int z)) := ev_var h
  exact sj_ret (ev_tup (ds := [.int _, .int _]) (ea_cons (ev_mod (ev_intOf (ev_num hn (ev_var rfl) (v rfl) i0 (by omega))) (ev_add (v rfl) ev_int) (by omega)) (ea_cons (ev_mod (ev_intOf (ev_num hn (ev_var rfl) (ev_add (v rfl) ev_int) (by omega) (by omega))) (ev_add (v rfl) ev_int) (by omega)) ea_nil)) (by show 2 ≤ sizeLine; decide)) fun G v h => ⟨(nAt y.ns y.i % (y.w + 1), nAt y.ns (y.i + 1) % (y.h + 1)), onT_mod w1 h1, h⟩
/-! ### directions, times -/
def sp__law_directions (K : PySem.W.Frag) : Sp := spOf (fun _ : Unit => []) (fun _ => True) (fun _ => Dat K (.list (dirs.map datP)))
theorem ev_pr {ta tb : TE} {Δ : List Slot} {a b : Int} (ha : EvR ta Δ (Dat K (.int a))) (hb : EvR tb Δ (Dat K (.int b))) : EvR (tTup (tCons ta (tCons tb tNil))) Δ (Dat K (datP (a, b))) := ev_tup (ds := [.int a, .int b]) (ea_cons ha (ea_cons hb ea_nil)) (by show 2 ≤ sizeLine; decide)
theorem ok__law_directions (T : TX K mg) : FnOk P w K mg base CX0 1 T.f__law_directions T.d__law_directions p__law_directions (sp__law_directions K) := by
  refine fn_ok T.F__law_directions sc__law_directions (fun _ => rfl) fun cdv A outer s H E hr => ⟨_, (pss_one (ps_ret (pe_lst (pa_cons (pe_tup (pa_cons (pe_un un_neg pe_int) (pa_cons (pe_un un_neg pe_int) pa_nil))) (pa_cons (pe_tup (pa_cons (pe_un un_neg pe_int) (pa_cons pe_int pa_nil))) (pa_cons (pe_tup (pa_cons (pe_un un_neg pe_int) (pa_cons pe_int pa_nil))) (pa_cons (pe_tup (pa_cons pe_int (pa_cons (pe_un un_neg pe_int) pa_nil))) (pa_cons (pe_tup (pa_cons pe_int (pa_cons pe_int pa_nil))) (pa_cons (pe_tup (pa_cons pe_int (pa_cons (pe_un un_neg pe_int) pa_nil))) (pa_cons (pe_tup (pa_cons pe_int (pa_cons pe_int pa_nil))) (pa_cons (pe_tup (pa_cons pe_int (pa_cons pe_int pa_nil))) pa_nil))))))))))), fun y hy => ?_⟩
  exact sj_retD (ev_lst (ds := [datP (-1, -1), datP (-1, 0), datP (-1, 1), datP (0, -1), datP (0, 1), datP (1, -1), datP (1, 0), datP (1, 1)])
    (ea_cons (ev_pr (ev_neg ev_int) (ev_neg ev_int)) (ea_cons (ev_pr (ev_neg ev_int) ev_int) (ea_cons (ev_pr (ev_neg ev_int) ev_int) (ea_cons (ev_pr ev_int (ev_neg ev_int)) (ea_cons (ev_pr ev_int ev_int) (ea_cons (ev_pr ev_int (ev_neg ev_int)) (ea_cons (ev_pr ev_int ev_int) (ea_cons (ev_pr ev_int ev_int) ea_nil)))))))) (by show 8 ≤ sizeLine; decide)) rfl rfl
def mulP (f : Int) (p : Pt) : Pt := (f * p.1, f * p.2)
def argsTm (K : PySem.W.Frag) (y : Int × Pt) : List RR := [Dat K (.int y.1), Dat K (datP y.2)]
def sp__law_times (K : PySem.W.Frag) : Sp := spOf (argsTm K) (fun y => onT 6 6 y.2 = true) (fun y => Dat K (datP (mulP y.1 y.2)))
theorem cmulR {a b : Int} (h0 : 0 ≤ b) (h1 : b < 1000) : CMul a b := Or.inr ⟨by omega, by omega⟩
theorem ok__law_times (T : TX K mg) : FnOk P w K mg base CX0 1 T.f__law_times T.d__law_times p__law_times (sp__law_times K) := by
  refine fn_ok T.F__law_times sc__law_times (fun _ => rfl) fun cdv A outer s H E hr => ⟨_, (pss_one (ps_ret (pe_tup (pa_cons (pe_op op_mul (pv 0) (pe_ix (kix_tup K) (pv 1) pe_int (fun _ _ => rfl))) (pa_cons (pe_op op_mul (pv 0) (pe_ix (kix_tup K) (pv 1) pe_int (fun _ _ => rfl))) pa_nil))))), fun y hy => ?_⟩
  obtain ⟨f, ⟨a, b⟩⟩ := y
  obtain ⟨⟨a0, a1⟩, b0, b1⟩ := onT_iff.mp hy
  simp only at a0 a1 b0 b1
  exact sj_retD (ev_pr (ev_mul (ev_var rfl) (ev_ixT (ds := [.int a, .int b]) (ev_var rfl) ev_int rfl) (cmulR a0 (by omega))) (ev_mul (ev_var rfl) (ev_ixT (ds := [.int a, .int b]) (ev_var rfl) ev_int rfl) (cmulR b0 (by omega)))) rfl rfl
/-! ### the great number -/
def sp__law_great (K : PySem.W.Frag) : Sp := spOf (fun ns : List Int => [Dat K (.list (ns.map .int)), Dat K (.int 30)]) NumOk (fun _ => ExR fun z : Int => AndR (0 ≤ z ∧ z < 1009 ^ 9) (Dat K (.int z)))
theorem ok__law_great (T : TX K mg) : FnOk P w K mg base CX0 1 T.f__law_great T.d__law_great p__law_great (sp__law_great K) := by
  refine fn_ok T.F__law_great sc__law_great (fun _ => rfl) fun cdv A outer s H E hr => ⟨_, (pss_cons (ps_set (i := 2) sc__law_great.nd rfl (Or.inl rfl) pe_int)
(pss_cons (ps_for PassesOwn.never rfl (pi_range1 (by rfl) T.z_range (pa_cons (pe_op op_add pe_int (pe_op op_mod (pe_callTy (T := "int") call_int1 (by rfl) T.z_int (by decide +kernel) (pa_cons (pe_ix (kix_list K) (pv 0) (pv 1) (fun _ _ => rfl)) pa_nil)) pe_int)) pa_nil)) (pg_name (i := 3) sc__law_great.nd rfl (Or.inl rfl))
(pss_one (ps_set (i := 2) sc__law_great.nd rfl (Or.inl rfl) (pe_op op_add (pe_op op_mul pe_int (pv 2)) (pe_ix (kix_list K) (pv 0) (pe_op op_add (pe_op op_add (pv 1) pe_int) (pv 3)) (fun _ _ => rfl))))))
(pss_one (ps_ret (pv 2))))), fun ns hn => ?_⟩
  have v {Δ : List Slot} {i : Nat} {z : Int} (h : Δ[i]? = some (.val (Dat K (.int z)))) : EvR (tVar i) Δ (Dat K (.int z)) := ev_var h
  have b0 := Int.emod_nonneg (nAt ns 30) (show (9 : Int) ≠ 0 by decide)
  have b1 := Int.emod_lt_of_pos (nAt ns 30) (show (0 : Int) < 9 by decide)
  refine q_asg (R := Dat K (.int 0)) ev_int ?_
  refine sj_seq (M := fun Δ' => ∃ (z : Int) (s3 : Slot), Δ' = [.val (Dat K (.list (ns.map .int))), .val (Dat K (.int 30)), .val (Dat K (.int z)), s3] ∧ 0 ≤ z ∧ z < 1009 ^ 9)
    (sj_forR1 (n := 1 + nAt ns 30 % 9) (ea_cons (ev_add ev_int (ev_mod (ev_intOf (ev_num hn (ev_var rfl) (v rfl))) ev_int (by decide))) ea_nil) ⟨by omega, by omega⟩ (fun i Δ' => ∃ (z : Int) (s3 : Slot), Δ' = [.val (Dat K (.list (ns.map .int))), .val (Dat K (.int 30)), .val (Dat K (.int z)), s3] ∧ 0 ≤ z ∧ z < 1009 ^ i)
      ⟨0, _, rfl, by decide, by decide⟩ (fun i Δ' hi hP => ?_) (fun Δ' hP => ?_)) ?_
  · obtain ⟨z, s3, rfl, z0, z1⟩ := hP
    have sm := nAt_small hn (i := 30 + 1 + (i : Int)) (by omega) (by omega)
    refine ⟨_, _, gj_name, ?_⟩
    refine sj_asg (ev_add (ev_mul ev_int (v rfl) (Or.inl ⟨by decide, by decide⟩)) (ev_num hn (ev_var rfl) (ev_add (ev_add (v rfl) ev_int) (v rfl)) (by omega) (by omega))) ?_
    refine ⟨_, _, rfl, by have := sm.1; omega, ?_⟩
    have := sm.2
    rw [Int.pow_succ]
    omega
  · obtain ⟨z, s3, rfl, z0, z1⟩ := hP
    refine ⟨z, s3, rfl, z0, ?_⟩
    have hle : (1 + nAt ns 30 % 9).toNat ≤ 9 := by omega
    have h2 : (1009 : Nat) ^ (1 + nAt ns 30 % 9).toNat ≤ 1009 ^ 9 := Nat.pow_le_pow_right (by decide) hle
    have h3 : ((1009 : Int)) ^ (1 + nAt ns 30 % 9).toNat ≤ 1009 ^ 9 := by exact_mod_cast h2
    omega
  · rintro Δ' ⟨z, s3, rfl, z0, z1⟩
    exact sj_ret (v rfl) fun G v h => ⟨z, ⟨z0, z1⟩, h⟩
end CU
/-! F10: the law's table, ball, walk, fall, minutes. -/
namespace CU
open PySem PySem.Spec PyProof.Rows L2 DL
variable {P : Program} {w : World} {K : PySem.W.Frag} {mg : Str → Option Value} {base : Heap}
/-! ### the table -/
def tabD (y : TabN) : PyData := .tuple [.int y.w, .int y.h, .tuple (y.ps.map datP)]
structure LTab (y : TabN) : Prop where
  w1 : 1 ≤ y.w
  w6 : y.w ≤ 6
  h1 : 1 ≤ y.h
  h6 : y.h ≤ 6
  few : y.ps.length ≤ 3
  on : ∀ p ∈ y.ps, onT y.w y.h p = true
  nd : y.ps.Nodup
def sp__law_table (K : PySem.W.Frag) : Sp := spOf (fun ns : List Int => [Dat K (.list (ns.map .int)), Dat K (.int 0)]) NumOk (fun _ => ExR fun y : TabN => AndR (LTab y) (Dat K (tabD y)))
theorem ok__law_table (T : TX K mg) : FnOk P w K mg base CX0 1 T.f__law_table T.d__law_table p__law_table (sp__law_table K) := by
  refine fn_ok T.F__law_table sc__law_table (fun _ => rfl) fun cdv A outer s H E hr => ⟨_, (pss_cons (ps_set (i := 2) sc__law_table.nd rfl (Or.inl rfl) (pe_op op_add pe_int (pe_op op_mod (pe_callTy (T := "int") call_int1 (by rfl) T.z_int (by decide +kernel) (pa_cons (pe_ix (kix_list K) (pv 0) (pv 1) (fun _ _ => rfl)) pa_nil)) pe_int)))
(pss_cons (ps_set (i := 3) sc__law_table.nd rfl (Or.inl rfl) (pe_op op_add pe_int (pe_op op_mod (pe_callTy (T := "int") call_int1 (by rfl) T.z_int (by decide +kernel) (pa_cons (pe_ix (kix_list K) (pv 0) (pe_op op_add (pv 1) pe_int) (fun _ _ => rfl)) pa_nil)) pe_int)))
(pss_cons (ps_set (i := 4) sc__law_table.nd rfl (Or.inl rfl) (pe_lst pa_nil))
(pss_cons (ps_for PassesOwn.never rfl (pi_range1 (by rfl) T.z_range (pa_cons (pe_op op_mod (pe_callTy (T := "int") call_int1 (by rfl) T.z_int (by decide +kernel) (pa_cons (pe_ix (kix_list K) (pv 0) (pe_op op_add (pv 1) pe_int) (fun _ _ => rfl)) pa_nil)) pe_int) pa_nil)) (pg_name (i := 5) sc__law_table.nd rfl (Or.inl rfl))
(pss_cons (ps_set (i := 6) sc__law_table.nd rfl (Or.inl rfl) (pe_tup (pa_cons (pe_op op_mod (pe_callTy (T := "int") call_int1 (by rfl) T.z_int (by decide +kernel) (pa_cons (pe_ix (kix_list K) (pv 0) (pe_op op_add (pe_op op_add (pv 1) pe_int) (pv 5)) (fun _ _ => rfl)) pa_nil)) (pe_op op_add (pv 2) pe_int)) (pa_cons (pe_op op_mod (pe_callTy (T := "int") call_int1 (by rfl) T.z_int (by decide +kernel) (pa_cons (pe_op op_fdiv (pe_ix (kix_list K) (pv 0) (pe_op op_add (pe_op op_add (pv 1) pe_int) (pv 5)) (fun _ _ => rfl)) pe_int) pa_nil)) (pe_op op_add (pv 3) pe_int)) pa_nil))))
(pss_one (ps_if (pt_cmpR (kop_niS K rfl (room65 hr)) (pv 6) (pv 4) (by rfl))
(pss_one (kps_app K rfl (pv 4) (pa_cons (pv 6) pa_nil)))
pss_nil))))
(pss_one (ps_ret (pe_tup (pa_cons (pv 2) (pa_cons (pv 3) (pa_cons (pe_callTy (T := "tuple") (kc_tuple K) (by rfl) T.z_tuple (by decide +kernel) (pa_cons (pv 4) pa_nil)) pa_nil)))))))))), fun ns hn => ?_⟩
  have v {Δ : List Slot} {i : Nat} {z : Int} (h : Δ[i]? = some (.val (Dat K (.int z)))) : EvR (tVar i) Δ (Dat K (.int z)) := ev_var h
  have hn0 := nAt_small hn (i := 0) (by decide) (by decide)
  refine q_asg (ev_add ev_int (ev_mod (ev_intOf (ev_num hn (ev_var rfl) (v rfl))) ev_int (by decide))) ?_
  refine q_asg (ev_add ev_int (ev_mod (ev_intOf (ev_num hn (ev_var rfl) (ev_add (v rfl) ev_int))) ev_int (by decide))) ?_
  have w0 := Int.emod_nonneg (nAt ns 0) (show (6 : Int) ≠ 0 by decide)
  have w1 := Int.emod_lt_of_pos (nAt ns 0) (show (0 : Int) < 6 by decide)
  have h0 := Int.emod_nonneg (nAt ns (0 + 1)) (show (6 : Int) ≠ 0 by decide)
  have h1 := Int.emod_lt_of_pos (nAt ns (0 + 1)) (show (0 : Int) < 6 by decide)
  generalize hw : 1 + nAt ns 0 % 6 = tw
  generalize hh : 1 + nAt ns (0 + 1) % 6 = th
  have c0 := Int.emod_nonneg (nAt ns (0 + 2)) (show (4 : Int) ≠ 0 by decide)
  have c1 := Int.emod_lt_of_pos (nAt ns (0 + 2)) (show (0 : Int) < 4 by decide)
  refine q_new (K := K) ?_
  refine sj_seq (M := fun Δ' => ∃ (ps : List Pt) (s5 s6 : Slot), Δ' = [.val (Dat K (.list (ns.map .int))), .val (Dat K (.int 0)), .val (Dat K (.int tw)), .val (Dat K (.int th)), .opn (OLst K (ps.map datP)), s5, s6] ∧ ps.length ≤ 3 ∧ (∀ p ∈ ps, onT tw th p = true) ∧ ps.Nodup)
    (sj_forR1 (n := nAt ns (0 + 2) % 4) (ea_cons (ev_mod (ev_intOf (ev_num hn (ev_var rfl) (ev_add (v rfl) ev_int))) ev_int (by decide)) ea_nil) ⟨by omega, by omega⟩ (fun i Δ' => ∃ (ps : List Pt) (s5 s6 : Slot), Δ' = [.val (Dat K (.list (ns.map .int))), .val (Dat K (.int 0)), .val (Dat K (.int tw)), .val (Dat K (.int th)), .opn (OLst K (ps.map datP)), s5, s6] ∧ ps.length ≤ i ∧ (∀ p ∈ ps, onT tw th p = true) ∧ ps.Nodup)
      ⟨[], _, _, rfl, Nat.zero_le _, (fun _ h => by cases h), List.nodup_nil⟩ (fun i Δ' hi hP => ?_) (fun Δ' hP => ?_)) ?_
  · obtain ⟨ps, s5, s6, rfl, hl, ho, hd⟩ := hP
    refine ⟨_, _, gj_name, ?_⟩
    have e1 : ∀ {Δ : List Slot}, Δ[0]? = some (.val (Dat K (.list (ns.map .int)))) → Δ[1]? = some (.val (Dat K (.int 0))) → Δ[5]? = some (.val (Dat K (.int (i : Int)))) → EvR (tOp (rIxL K) (tVar 0) (tOp (rI0 fun i j => .int (i + j)) (tOp (rI0 fun i j => .int (i + j)) (tVar 1) (tC (.int 3))) (tVar 5))) Δ (Dat K (.int (nAt ns (0 + 3 + (i : Int))))) :=
      fun a b c => ev_num hn (ev_var a) (ev_add (ev_add (v b) ev_int) (v c)) (by omega) (by omega)
    refine q_asg (ev_pr (ev_mod (ev_intOf (e1 rfl rfl rfl)) (ev_add (v rfl) ev_int) (by omega)) (ev_mod (ev_intOf (ev_fdiv (e1 rfl rfl rfl) ev_int ⟨by decide, by decide⟩)) (ev_add (v rfl) ev_int) (by omega))) ?_
    have on := onT_mod (w := tw) (h := th) (a := nAt ns (0 + 3 + (i : Int))) (b := nAt ns (0 + 3 + (i : Int)) / 7) (by omega) (by omega)
    generalize (nAt ns (0 + 3 + (i : Int)) % (tw + 1), nAt ns (0 + 3 + (i : Int)) / 7 % (th + 1)) = q at on
    refine sj_if (et_test (ev_peekL (K := K) (i := 4) (ds := ps.map datP) flat_bl rfl (ev_inSL (d := datP q) (ev_var rfl) (ev_var rfl) (shaped_datP q) (lay_datPs ps)))) (fun hb => ?_) (fun hb => ?_)
    · rw [any_datP, if_pos rfl] at hb
      have hq : ¬ q ∈ ps := by simpa using hb
      refine sj_app (d := datP q) rfl (ev_var rfl) (by rw [List.length_map]; exact Nat.lt_of_le_of_lt (show ps.length ≤ 4 by omega) (by decide)) ?_
      refine ⟨ps ++ [q], _, _, by rw [List.map_append]; rfl, by rw [List.length_append]; simp only [List.length_singleton]; omega, fun p hp => ?_, ?_⟩
      · rcases List.mem_append.mp hp with e | e
        · exact ho p e
        · rw [List.mem_singleton.mp e]
          exact on
      · exact List.nodup_append.mpr ⟨hd, List.nodup_cons.mpr ⟨by simp, List.nodup_nil⟩, fun a ha b hb e => hq (by rw [List.mem_singleton] at hb; rw [← hb, ← e]; exact ha)⟩
    · exact sj_next ⟨ps, _, _, rfl, by omega, ho, hd⟩
  · obtain ⟨ps, s5, s6, rfl, hl, ho, hd⟩ := hP
    exact ⟨ps, _, _, rfl, by omega, ho, hd⟩
  · rintro Δ' ⟨ps, s5, s6, rfl, hl, ho, hd⟩
    refine sj_frz (i := 4) rfl ?_
    exact sj_ret (ev_tup (ds := [.int tw, .int th, .tuple (ps.map datP)]) (ea_cons (v rfl) (ea_cons (v rfl) (ea_cons (ev_cb (ea_cons (ev_var rfl) ea_nil) kb_tupL) ea_nil))) (by show 3 ≤ sizeLine; decide)) fun G u h => ⟨⟨tw, th, ps⟩, ⟨by show 1 ≤ tw; omega, by show tw ≤ 6; omega, by show 1 ≤ th; omega, by show th ≤ 6; omega, hl, ho, hd⟩, h⟩
/-! ### the ball -/
structure LBaA where
  ns : List Int
  nm : Str
  w : Int
  h : Int
structure LBal (y : LBaA) (b : Bal) : Prop where
  nm : b.n = y.nm
  on : onT y.w y.h (b.x, b.y) = true
  hx : is1 b.dx
  hy : is1 b.dy
  nz : (b.dx, b.dy) ≠ (0, 0)
  m0 : 0 ≤ b.m
  m4 : b.m ≤ 4
structure LBaOk (y : LBaA) : Prop where
  n : NumOk y.ns
  w1 : 1 ≤ y.w
  h1 : 1 ≤ y.h
def argsLB (K : PySem.W.Frag) (y : LBaA) : List RR := [Dat K (.list (y.ns.map .int)), Dat K (.int 14), Dat K (.str y.nm), Dat K (.int y.w), Dat K (.int y.h)]
def waysL : List Pt := [(1, 1), (1, -1), (-1, 1), (-1, -1), (1, 0), (-1, 0), (0, 1), (0, -1), (1, 1), (-1, 1)]
theorem ways_ok : ∀ d ∈ waysL, is1 d.1 ∧ is1 d.2 ∧ (d.1, d.2) ≠ (0, 0) := by
  unfold is1
  decide
def sp__law_ball (K : PySem.W.Frag) : Sp := spOf (argsLB K) LBaOk (fun y => ExR fun b : Bal => AndR (LBal y b) (Dat K (ballD b)))
theorem ok__law_ball (T : TX K mg) : FnOk P w K mg base CX0 1 T.f__law_ball T.d__law_ball p__law_ball (sp__law_ball K) := by
  refine fn_ok T.F__law_ball sc__law_ball (fun _ => rfl) fun cdv A outer s H E hr => ⟨_, (pss_cons (ps_set (i := 5) sc__law_ball.nd rfl (Or.inl rfl) (pe_tup (pa_cons (pe_tup (pa_cons pe_int (pa_cons pe_int pa_nil))) (pa_cons (pe_tup (pa_cons pe_int (pa_cons (pe_un un_neg pe_int) pa_nil))) (pa_cons (pe_tup (pa_cons (pe_un un_neg pe_int) (pa_cons pe_int pa_nil))) (pa_cons (pe_tup (pa_cons (pe_un un_neg pe_int) (pa_cons (pe_un un_neg pe_int) pa_nil))) (pa_cons (pe_tup (pa_cons pe_int (pa_cons pe_int pa_nil))) (pa_cons (pe_tup (pa_cons (pe_un un_neg pe_int) (pa_cons pe_int pa_nil))) (pa_cons (pe_tup (pa_cons pe_int (pa_cons pe_int pa_nil))) (pa_cons (pe_tup (pa_cons pe_int (pa_cons (pe_un un_neg pe_int) pa_nil))) (pa_cons (pe_tup (pa_cons pe_int (pa_cons pe_int pa_nil))) (pa_cons (pe_tup (pa_cons (pe_un un_neg pe_int) (pa_cons pe_int pa_nil))) pa_nil))))))))))))
(pss_cons (ps_set (i := 6) sc__law_ball.nd rfl (Or.inl rfl) (pe_ix (kix_tup K) (pv 5) (pe_op op_mod (pe_callTy (T := "int") call_int1 (by rfl) T.z_int (by decide +kernel) (pa_cons (pe_ix (kix_list K) (pv 0) (pv 1) (fun _ _ => rfl)) pa_nil)) pe_int) (fun _ _ => rfl)))
(pss_cons (ps_set (i := 7) sc__law_ball.nd rfl (Or.inl rfl) (pe_op op_mod (pe_callTy (T := "int") call_int1 (by rfl) T.z_int (by decide +kernel) (pa_cons (pe_ix (kix_list K) (pv 0) (pe_op op_add (pv 1) pe_int) (fun _ _ => rfl)) pa_nil)) (pe_op op_add (pv 3) pe_int)))
(pss_cons (ps_set (i := 8) sc__law_ball.nd rfl (Or.inl rfl) (pe_op op_mod (pe_callTy (T := "int") call_int1 (by rfl) T.z_int (by decide +kernel) (pa_cons (pe_ix (kix_list K) (pv 0) (pe_op op_add (pv 1) pe_int) (fun _ _ => rfl)) pa_nil)) (pe_op op_add (pv 4) pe_int)))
(pss_one (ps_ret (pe_tup (pa_cons (pv 2) (pa_cons (pv 7) (pa_cons (pv 8) (pa_cons (pe_ix (kix_tup K) (pv 6) pe_int (fun _ _ => rfl)) (pa_cons (pe_ix (kix_tup K) (pv 6) pe_int (fun _ _ => rfl)) (pa_cons (pe_op op_mul (pe_op op_mod (pe_callTy (T := "int") call_int1 (by rfl) T.z_int (by decide +kernel) (pa_cons (pe_ix (kix_list K) (pv 0) (pe_op op_add (pv 1) pe_int) (fun _ _ => rfl)) pa_nil)) pe_int) (pe_op op_mod (pe_callTy (T := "int") call_int1 (by rfl) T.z_int (by decide +kernel) (pa_cons (pe_ix (kix_list K) (pv 0) (pe_op op_add (pv 1) pe_int) (fun _ _ => rfl)) pa_nil)) pe_int)) pa_nil))))))))))))), fun y hy => ?_⟩
  obtain ⟨ns, nm, tw, th⟩ := y
  obtain ⟨hn, w1, h1⟩ := hy
  simp only at hn w1 h1
  have v {Δ : List Slot} {i : Nat} {z : Int} (h : Δ[i]? = some (.val (Dat K (.int z)))) : EvR (tVar i) Δ (Dat K (.int z)) := ev_var h
  refine q_asg (R := Dat K (.tuple (waysL.map datP))) (ev_tup (ds := waysL.map datP)
    (ea_cons (ev_pr ev_int ev_int) (ea_cons (ev_pr ev_int (ev_neg ev_int)) (ea_cons (ev_pr (ev_neg ev_int) ev_int) (ea_cons (ev_pr (ev_neg ev_int) (ev_neg ev_int)) (ea_cons (ev_pr ev_int ev_int) (ea_cons (ev_pr (ev_neg ev_int) ev_int) (ea_cons (ev_pr ev_int ev_int) (ea_cons (ev_pr ev_int (ev_neg ev_int)) (ea_cons (ev_pr ev_int ev_int) (ea_cons (ev_pr (ev_neg ev_int) ev_int) ea_nil)))))))))) (by show 10 ≤ sizeLine; decide)) ?_
  have k0 := Int.emod_nonneg (nAt ns 14) (show (10 : Int) ≠ 0 by decide)
  have k1 := Int.emod_lt_of_pos (nAt ns 14) (show (0 : Int) < 10 by decide)
  obtain ⟨d, hd⟩ : ∃ d, waysL[(nAt ns 14 % 10).toNat]? = some d := ⟨_, List.getElem?_eq_getElem (show (nAt ns 14 % 10).toNat < waysL.length by show _ < 10; omega)⟩
  have dk := ways_ok d (List.mem_of_getElem? hd)
  refine q_asg (R := Dat K (datP d)) (ev_ixT (ev_var rfl) (ev_mod (ev_intOf (ev_num hn (ev_var rfl) (v rfl))) ev_int (by decide)) ?_) ?_
  · have e : nAt ns 14 % 10 = (((nAt ns 14 % 10).toNat : Nat) : Int) := by omega
    rw [e]
    refine atI_nat ?_
    rw [List.getElem?_map, hd]
    rfl
  refine q_asg (ev_mod (ev_intOf (ev_num hn (ev_var rfl) (ev_add (v rfl) ev_int))) (ev_add (v rfl) ev_int) (by show 0 < tw + 1; omega)) ?_
  refine q_asg (ev_mod (ev_intOf (ev_num hn (ev_var rfl) (ev_add (v rfl) ev_int))) (ev_add (v rfl) ev_int) (by show 0 < th + 1; omega)) ?_
  have on := onT_mod (w := tw) (h := th) (a := nAt ns (14 + 1)) (b := nAt ns (14 + 2)) w1 h1
  have a0 := Int.emod_nonneg (nAt ns (14 + 3)) (show (5 : Int) ≠ 0 by decide)
  have a1 := Int.emod_lt_of_pos (nAt ns (14 + 3)) (show (0 : Int) < 5 by decide)
  have b0 := Int.emod_nonneg (nAt ns (14 + 4)) (show (2 : Int) ≠ 0 by decide)
  have b1 := Int.emod_lt_of_pos (nAt ns (14 + 4)) (show (0 : Int) < 2 by decide)
  refine sj_ret (ev_tup (ds := [.str nm, .int _, .int _, .int d.1, .int d.2, .int _]) (ea_cons (ev_var rfl) (ea_cons (v rfl) (ea_cons (v rfl) (ea_cons (ev_ixT (ds := [.int d.1, .int d.2]) (ev_var rfl) ev_int rfl) (ea_cons (ev_ixT (ds := [.int d.1, .int d.2]) (ev_var rfl) ev_int rfl) (ea_cons (ev_mul (ev_mod (ev_intOf (ev_num hn (ev_var rfl) (ev_add (v rfl) ev_int))) ev_int (by decide)) (ev_mod (ev_intOf (ev_num hn (ev_var rfl) (ev_add (v rfl) ev_int))) ev_int (by decide)) (cmulR b0 (by omega))) ea_nil)))))) (by show 6 ≤ sizeLine; decide)) fun G u h => ⟨⟨nm, nAt ns (14 + 1) % (tw + 1), nAt ns (14 + 2) % (th + 1), d.1, d.2, nAt ns (14 + 3) % 5 * (nAt ns (14 + 4) % 2)⟩, ⟨rfl, on, dk.1, dk.2.1, dk.2.2, ?_, ?_⟩, h⟩
  · exact Int.mul_nonneg a0 b0
  · show nAt ns (14 + 3) % 5 * (nAt ns (14 + 4) % 2) ≤ 4
    rcases (show nAt ns (14 + 4) % 2 = 0 ∨ nAt ns (14 + 4) % 2 = 1 by omega) with e | e
    · rw [e]
      omega
    · rw [e]
      omega
/-! ### the walk of a ball -/
structure WlkA where
  w : Int
  h : Int
  b : Bal
  n : Int
def rowsD (w h : Int) (b : Bal) (n : Nat) : List PyData := (List.range n).map (rowD w h b)
def argsWk (K : PySem.W.Frag) (y : WlkA) : List RR := [Dat K (.int y.w), Dat K (.int y.h), Dat K (ballD y.b), Dat K (.int y.n)]
def sp__law_walk (K : PySem.W.Frag) : Sp := spOf (argsWk K) (fun y => 0 ≤ y.n ∧ y.n ≤ 100000) (fun y => Dat K (.list (rowsD y.w y.h y.b (y.n + 1).toNat)))
theorem flip_val (w x d : Int) : (if (decide (x + d < 0) || decide (w < x + d)) = true then -d else d) = flip w x d := by
  unfold flip
  by_cases h1 : x + d < 0 <;> by_cases h2 : w < x + d <;> simp [h1, h2]
theorem ok__law_walk (T : TX K mg) : FnOk P w K mg base CX0 1 T.f__law_walk T.d__law_walk p__law_walk (sp__law_walk K) := by
  refine fn_ok T.F__law_walk sc__law_walk (fun _ => rfl) fun cdv A outer s H E hr => ⟨_, (pss_cons (ps_asg (pv 2) (kpg_tup (n := 6) K rfl rfl (pgs_cons (pg_name (i := 4) sc__law_walk.nd rfl (Or.inl rfl)) (pgs_cons (pg_name (i := 5) sc__law_walk.nd rfl (Or.inl rfl)) (pgs_cons (pg_name (i := 6) sc__law_walk.nd rfl (Or.inl rfl)) (pgs_cons (pg_name (i := 7) sc__law_walk.nd rfl (Or.inl rfl)) (pgs_cons (pg_name (i := 8) sc__law_walk.nd rfl (Or.inl rfl)) (pgs_cons (pg_name (i := 9) sc__law_walk.nd rfl (Or.inl rfl)) pgs_nil))))))))
(pss_cons (ps_set (i := 10) sc__law_walk.nd rfl (Or.inl rfl) (pe_lst pa_nil))
(pss_cons (ps_for PassesOwn.never rfl (pi_range1 (by rfl) T.z_range (pa_cons (pe_op op_add (pv 3) pe_int) pa_nil)) (pg_name (i := 11) sc__law_walk.nd rfl (Or.inl rfl))
(pss_cons (ps_if (PW.pt (pw_or (pt_cmpR op_lt (pe_op op_add (pv 5) (pv 7)) pe_int (nomark _)) (pw_or1 (pt_cmpR op_gt (pe_op op_add (pv 5) (pv 7)) (pv 0) (nomark _)))))
(pss_one (ps_set (i := 7) sc__law_walk.nd rfl (Or.inl rfl) (pe_un un_neg (pv 7))))
pss_nil)
(pss_cons (ps_if (PW.pt (pw_or (pt_cmpR op_lt (pe_op op_add (pv 6) (pv 8)) pe_int (nomark _)) (pw_or1 (pt_cmpR op_gt (pe_op op_add (pv 6) (pv 8)) (pv 1) (nomark _)))))
(pss_one (ps_set (i := 8) sc__law_walk.nd rfl (Or.inl rfl) (pe_un un_neg (pv 8))))
pss_nil)
(pss_cons (kps_app K rfl (pv 10) (pa_cons (pe_tup (pa_cons (pv 5) (pa_cons (pv 6) (pa_cons (pv 7) (pa_cons (pv 8) pa_nil))))) pa_nil))
(pss_cons (ps_set (i := 5) sc__law_walk.nd rfl (Or.inl rfl) (pe_op op_add (pv 5) (pv 7)))
(pss_one (ps_set (i := 6) sc__law_walk.nd rfl (Or.inl rfl) (pe_op op_add (pv 6) (pv 8)))))))))
(pss_one (ps_ret (pv 10)))))), fun y hy => ?_⟩
  obtain ⟨tw, th, b, n⟩ := y
  obtain ⟨n0, n1⟩ := hy
  simp only at n0 n1
  have v {Δ : List Slot} {i : Nat} {z : Int} (h : Δ[i]? = some (.val (Dat K (.int z)))) : EvR (tVar i) Δ (Dat K (.int z)) := ev_var h
  refine q_asgG (ev_var rfl) (gj_tup (ds := [.str b.n, .int b.x, .int b.y, .int b.dx, .int b.dy, .int b.m]) rfl (gjs_cons gj_name (gjs_cons gj_name (gjs_cons gj_name (gjs_cons gj_name (gjs_cons gj_name (gjs_cons gj_name gjs_nil))))))) ?_
  refine q_new (K := K) ?_
  refine sj_seq (M := fun Δ' => ∃ (s5 s6 s7 s8 s11 : Slot), Δ' = [.val (Dat K (.int tw)), .val (Dat K (.int th)), .val (Dat K (ballD b)), .val (Dat K (.int n)), .val (Dat K (.str b.n)), s5, s6, s7, s8, .val (Dat K (.int b.m)), .opn (OLst K (rowsD tw th b (n + 1).toNat)), s11])
    (sj_forR1 (n := n + 1) (ea_cons (ev_add (v rfl) ev_int) ea_nil) ⟨by omega, by omega⟩ (fun i Δ' => ∃ (s11 : Slot), Δ' = [.val (Dat K (.int tw)), .val (Dat K (.int th)), .val (Dat K (ballD b)), .val (Dat K (.int n)), .val (Dat K (.str b.n)), .val (Dat K (.int (itS tw b.x b.dx i).1)), .val (Dat K (.int (itS th b.y b.dy i).1)), .val (Dat K (.int (itS tw b.x b.dx i).2)), .val (Dat K (.int (itS th b.y b.dy i).2)), .val (Dat K (.int b.m)), .opn (OLst K (rowsD tw th b i)), s11])
      ⟨_, rfl⟩ (fun i Δ' hi hP => ?_) (fun Δ' hP => ?_)) ?_
  · obtain ⟨s11, rfl⟩ := hP
    refine ⟨_, _, gj_name, ?_⟩
    have ex : itS tw b.x b.dx (i + 1) = stp tw (itS tw b.x b.dx i) := rfl
    have ey : itS th b.y b.dy (i + 1) = stp th (itS th b.y b.dy i) := rfl
    have er : rowsD tw th b (i + 1) = rowsD tw th b i ++ [rowD tw th b i] := by
      unfold rowsD
      rw [List.range_succ, List.map_append]
      rfl
    have erow : rowD tw th b i = .tuple [.int (itS tw b.x b.dx i).1, .int (itS th b.y b.dy i).1, .int (fxF tw (itS tw b.x b.dx i)), .int (fxF th (itS th b.y b.dy i))] := rfl
    dsimp only
    rw [ex, ey, er, erow]
    generalize itS tw b.x b.dx i = sx
    generalize itS th b.y b.dy i = sy
    refine sj_seq1 (Δ' := [.val (Dat K (.int tw)), .val (Dat K (.int th)), .val (Dat K (ballD b)), .val (Dat K (.int n)), .val (Dat K (.str b.n)), .val (Dat K (.int sx.1)), .val (Dat K (.int sy.1)), .val (Dat K (.int (fxF tw sx))), .val (Dat K (.int sy.2)), .val (Dat K (.int b.m)), .opn (OLst K (rowsD tw th b i)), .val (Dat K (.int (i : Int)))])
      (sj_if (et_or (et_test (ev_lt (ev_add (v rfl) (v rfl)) ev_int)) fun _ => et_test (ev_gt (ev_add (v rfl) (v rfl)) (v rfl))) (fun hb => ?_) (fun hb => ?_)) ?_
    · refine sj_asg (ev_neg (v rfl)) ?_
      have e : fxF tw sx = -sx.2 := by unfold fxF; rw [← flip_val, if_pos hb]
      rw [e]
      rfl
    · refine sj_next ?_
      have e : fxF tw sx = sx.2 := by unfold fxF; rw [← flip_val, if_neg (by rw [hb]; exact Bool.false_ne_true)]
      rw [e]
      rfl
    refine sj_seq1 (Δ' := [.val (Dat K (.int tw)), .val (Dat K (.int th)), .val (Dat K (ballD b)), .val (Dat K (.int n)), .val (Dat K (.str b.n)), .val (Dat K (.int sx.1)), .val (Dat K (.int sy.1)), .val (Dat K (.int (fxF tw sx))), .val (Dat K (.int (fxF th sy))), .val (Dat K (.int b.m)), .opn (OLst K (rowsD tw th b i)), .val (Dat K (.int (i : Int)))])
      (sj_if (et_or (et_test (ev_lt (ev_add (v rfl) (v rfl)) ev_int)) fun _ => et_test (ev_gt (ev_add (v rfl) (v rfl)) (v rfl))) (fun hb => ?_) (fun hb => ?_)) ?_
    · refine sj_asg (ev_neg (v rfl)) ?_
      have e : fxF th sy = -sy.2 := by unfold fxF; rw [← flip_val, if_pos hb]
      rw [e]
      rfl
    · refine sj_next ?_
      have e : fxF th sy = sy.2 := by unfold fxF; rw [← flip_val, if_neg (by rw [hb]; exact Bool.false_ne_true)]
      rw [e]
    refine q_app (d := .tuple [.int sx.1, .int sy.1, .int (fxF tw sx), .int (fxF th sy)]) rfl (ev_tup (ds := [.int sx.1, .int sy.1, .int (fxF tw sx), .int (fxF th sy)]) (ea_cons (v rfl) (ea_cons (v rfl) (ea_cons (v rfl) (ea_cons (v rfl) ea_nil)))) (by show 4 ≤ sizeLine; decide)) ?_ ?_
    · unfold rowsD
      rw [List.length_map, List.length_range]
      exact Nat.lt_of_le_of_lt (show i ≤ 200000 by omega) (by decide)
    refine q_asg (ev_add (v rfl) (v rfl)) ?_
    refine sj_asg (ev_add (v rfl) (v rfl)) ?_
    exact ⟨_, rfl⟩
  · obtain ⟨s11, rfl⟩ := hP
    exact ⟨_, _, _, _, _, rfl⟩
  · rintro Δ' ⟨s5, s6, s7, s8, s11, rfl⟩
    refine sj_frz (i := 10) rfl ?_
    exact sj_ret (ev_var rfl) fun _ _ h => h
/-! ### rows read -/
theorem ev_row {ta tb : TE} {Δ : List Slot} {w h : Int} {b : Bal} {n k : Nat} (ha : EvR ta Δ (Dat K (.list (rowsD w h b n)))) (hb : EvR tb Δ (Dat K (.int (k : Int)))) (hk : k < n) : EvR (tOp (rIxL K) ta tb) Δ (Dat K (rowD w h b k)) := by
  refine ev_ixL ha hb (atI_nat ?_)
  unfold rowsD
  rw [List.getElem?_map, List.getElem?_range hk]
  rfl
theorem ev_sl2 {ta : TE} {Δ : List Slot} {w h : Int} {b : Bal} {k : Nat} (ha : EvR ta Δ (Dat K (rowD w h b k))) : EvR (tSl (rSlT K) ta tNoPart (tPart (tC (.int 2)))) Δ (Dat K (datP (psF w h b k))) :=
  (ev_slT (ds := [.int (itS w b.x b.dx k).1, .int (itS h b.y b.dy k).1, .int (fxF w (itS w b.x b.dx k)), .int (fxF h (itS h b.y b.dy k))]) ha eo_none (eo_some (ev_int (K := K))) (fun z => by cases z.2)).cast rfl
theorem rows_len {w h : Int} {b : Bal} {n : Nat} : (rowsD w h b n).length = n := by
  unfold rowsD
  rw [List.length_map, List.length_range]
/-! ### the law's fall -/
structure LFaA where
  t : TabN
  b : Bal
def argsLF (K : PySem.W.Frag) (y : LFaA) : List RR := [Dat K (tabD y.t), Dat K (ballD y.b)]
structure LSz (w h : Int) : Prop where
  w1 : 1 ≤ w
  w6 : w ≤ 6
  h1 : 1 ≤ h
  h6 : h ≤ 6
theorem LSz.wh {w h : Int} (z : LSz w h) : 1 ≤ 4 * w * h ∧ 4 * w * h ≤ 144 := by
  obtain ⟨w1, w6, h1, h6⟩ := z
  have a : 1 * 1 ≤ w * h := Int.mul_le_mul w1 h1 (by decide) (by omega)
  have b : w * h ≤ 6 * 6 := Int.mul_le_mul w6 h6 (by omega) (by decide)
  rw [Int.mul_assoc]
  omega
def sp__law_fall (K : PySem.W.Frag) : Sp := spOf (argsLF K) (fun y => LSz y.t.w y.t.h) (fun y => Dat K (optI (lawFall y.t.w y.t.h y.t.ps y.b)))
theorem cmul4 {z : Int} : CMul 4 z := Or.inl ⟨by decide, by decide⟩
theorem ok__law_fall (T : TX K mg) : FnOk P w K mg base CX0 2 T.f__law_fall T.d__law_fall p__law_fall (sp__law_fall K) := by
  refine fn_ok T.F__law_fall sc__law_fall (fun _ => rfl) fun cdv A outer s H E hr => ⟨_, (pss_cons (ps_set (i := 2) sc__law_fall.nd rfl (Or.inl rfl) (pe_call (ok__law_walk T) (hr.mono (by decide)) (by rfl) T.g__law_walk T.F__law_walk.kp T.b__law_walk .nil pass0 (pa_cons (pe_ix (kix_tup K) (pv 0) pe_int (fun _ _ => rfl)) (pa_cons (pe_ix (kix_tup K) (pv 0) pe_int (fun _ _ => rfl)) (pa_cons (pv 1) (pa_cons (pe_op op_mul (pe_op op_mul pe_int (pe_ix (kix_tup K) (pv 0) pe_int (fun _ _ => rfl))) (pe_ix (kix_tup K) (pv 0) pe_int (fun _ _ => rfl))) pa_nil))))))
(pss_cons (ps_for PassesOwn.never rfl (pi_range1 (by rfl) T.z_range (pa_cons (pe_callB (id := "len") (kc_len K) (by rfl) T.z_len (by decide +kernel) (pa_cons (pv 2) pa_nil)) pa_nil)) (pg_name (i := 3) sc__law_fall.nd rfl (Or.inl rfl))
(pss_one (ps_if (pt_cmpR (kop_inS K rfl (room65 hr)) (pe_tup (pa_cons (pe_ix (kix_tup K) (pe_ix (kix_list K) (pv 2) (pv 3) (fun _ _ => rfl)) pe_int (fun _ _ => rfl)) (pa_cons (pe_ix (kix_tup K) (pe_ix (kix_list K) (pv 2) (pv 3) (fun _ _ => rfl)) pe_int (fun _ _ => rfl)) pa_nil))) (pe_ix (kix_tup K) (pv 0) pe_int (fun _ _ => rfl)) (by rfl))
(pss_one (ps_ret (pe_op op_add (pe_ix (kix_tup K) (pv 1) pe_int (fun _ _ => rfl)) (pv 3))))
pss_nil)))
(pss_one (ps_ret pe_non)))), fun y hy => ?_⟩
  obtain ⟨⟨tw, th, ps⟩, b⟩ := y
  simp only at hy
  have hwh := hy.wh
  obtain ⟨w1, w6, h1, h6⟩ := hy
  have v {Δ : List Slot} {i : Nat} {z : Int} (h : Δ[i]? = some (.val (Dat K (.int z)))) : EvR (tVar i) Δ (Dat K (.int z)) := ev_var h
  have eT : ∀ {Δ : List Slot}, Δ[0]? = some (.val (Dat K (tabD ⟨tw, th, ps⟩))) → EvR (tVar 0) Δ (Dat K (.tuple [.int tw, .int th, .tuple (ps.map datP)])) := fun h => ev_var h
  have eB : ∀ {Δ : List Slot}, Δ[1]? = some (.val (Dat K (ballD b))) → EvR (tVar 1) Δ (Dat K (.tuple [.str b.n, .int b.x, .int b.y, .int b.dx, .int b.dy, .int b.m])) := fun h => ev_var h
  refine q_asg (ev_call (⟨tw, th, b, 4 * tw * th⟩ : WlkA) (ea_cons (ev_ixT (eT rfl) ev_int rfl) (ea_cons (ev_ixT (eT rfl) ev_int rfl) (ea_cons (ev_var rfl) (ea_cons (ev_mul (ev_mul ev_int (ev_ixT (eT rfl) ev_int rfl) cmul4) (ev_ixT (eT rfl) ev_int rfl) (cmulR (by omega) (by omega))) ea_nil)))) ⟨by show 0 ≤ 4 * tw * th; omega, by show 4 * tw * th ≤ 100000; omega⟩) ?_
  show SJ _ _ (retA (Dat K (optI (lawFall tw th ps b))))
  generalize hN : (4 * tw * th + 1).toNat = N
  have hNb : N ≤ 145 := by omega
  refine sj_seq (M := fun Δ' => lawFall tw th ps b = none) (sj_forR1 (n := (N : Int)) (ea_cons ((ev_cb (ea_cons (ev_var rfl) ea_nil) kb_lenL).cast (congrArg PyData.int ?_)) ea_nil) ⟨by omega, by omega⟩ (fun i Δ' => ∃ (s3 : Slot), Δ' = [.val (Dat K (tabD ⟨tw, th, ps⟩)), .val (Dat K (ballD b)), .val (Dat K (.list (rowsD tw th b N))), s3] ∧ ∀ j, j < i → decide (psF tw th b j ∈ ps) = false)
      ⟨_, by subst hN; rfl, fun j hj => by omega⟩ (fun i Δ' hi hP => ?_) (fun Δ' hP => ?_)) (fun Δ' hF => ?_)
  · rw [← hN]
    exact congrArg Int.ofNat rows_len
  · obtain ⟨s3, rfl, hj⟩ := hP
    refine ⟨_, _, gj_name, ?_⟩
    have hiN : i < N := by omega
    have er : ∀ {Δ : List Slot}, Δ[2]? = some (.val (Dat K (.list (rowsD tw th b N)))) → Δ[3]? = some (.val (Dat K (.int (i : Int)))) → EvR (tOp (rIxL K) (tVar 2) (tVar 3)) Δ (Dat K (.tuple [.int (itS tw b.x b.dx i).1, .int (itS th b.y b.dy i).1, .int (fxF tw (itS tw b.x b.dx i)), .int (fxF th (itS th b.y b.dy i))])) := fun a c => ev_row (ev_var a) (v c) hiN
    refine sj_if (et_test (ev_inST (d := datP (psF tw th b i)) (ev_pr (ev_ixT (er rfl rfl) ev_int rfl) (ev_ixT (er rfl rfl) ev_int rfl)) (ev_ixT (eT rfl) ev_int rfl) (shaped_datP _) (lay_datPs ps))) (fun hb => ?_) (fun hb => ?_)
    · rw [any_datP, if_neg Bool.false_ne_true] at hb
      refine sj_retD (ev_add (ev_ixT (eB rfl) ev_int rfl) (v rfl)) rfl ?_
      unfold lawFall
      rw [hN, firstK_some (k := i) hb hiN hj]
      rfl
    · rw [any_datP, if_neg Bool.false_ne_true] at hb
      refine sj_next ⟨_, rfl, fun j hj2 => ?_⟩
      rcases Nat.lt_or_eq_of_le (Nat.le_of_lt_succ hj2) with e | e
      · exact hj j e
      · rw [e]
        exact hb
  · obtain ⟨s3, rfl, hj⟩ := hP
    show lawFall tw th ps b = none
    unfold lawFall
    rw [hN, firstK_none (fun j h => hj j (by omega))]
    rfl
  · rw [hF]
    exact sj_retD ev_non rfl rfl
/-! ### the law's minutes -/
structure LMiA where
  t : TabN
  b : Bal
  p : Pt
  n : Int
def argsLM (K : PySem.W.Frag) (y : LMiA) : List RR := [Dat K (tabD y.t), Dat K (ballD y.b), Dat K (datP y.p), Dat K (.int y.n)]
def sp__law_minutes (K : PySem.W.Frag) : Sp := spOf (argsLM K) (fun y => 0 ≤ y.n ∧ y.n ≤ 100000) (fun y => Dat K (.list ((lawMin y.t.w y.t.h y.b y.p (y.n + 1).toNat).map .int)))
theorem ok__law_minutes (T : TX K mg) : FnOk P w K mg base CX0 2 T.f__law_minutes T.d__law_minutes p__law_minutes (sp__law_minutes K) := by
  refine fn_ok T.F__law_minutes sc__law_minutes (fun _ => rfl) fun cdv A outer s H E hr => ⟨_, (pss_cons (ps_set (i := 4) sc__law_minutes.nd rfl (Or.inr rfl) (pe_call (ok__law_walk T) (hr.mono (by decide)) (by rfl) T.g__law_walk T.F__law_walk.kp T.b__law_walk .nil pass0 (pa_cons (pe_ix (kix_tup K) (pv 0) pe_int (fun _ _ => rfl)) (pa_cons (pe_ix (kix_tup K) (pv 0) pe_int (fun _ _ => rfl)) (pa_cons (pv 1) (pa_cons (pv 3) pa_nil))))))
(pss_one (ps_ret (pe_lc (own := [("_law_k", 5)]) (by rfl) sc__law_minutes.nd (pi_range1 (by rfl) T.z_range (pa_cons (pe_callB (id := "len") (kc_len K) (by rfl) T.z_len (by decide +kernel) (pa_cons (pv 4) pa_nil)) pa_nil)) (blkOk_by (N := N__law_minutes) (sc := defScope s__law_minutes) (by decide +kernel)) (fun _ _ _ _ _ => pg_name (i := 5) sc__law_minutes.nd rfl (Or.inl rfl)) (fun _ _ _ _ _ => pts_one (pt_cmpR (kop_eqD K rfl hr.units) (pe_slice (ksl_tup K) (pe_ix (kix_list K) (pv 4) (pv 5) (fun _ _ => rfl)) po_none (po_some pe_int)) (pv 2) (nomark _))) (fun _ _ _ _ _ => (pe_op op_add (pe_ix (kix_tup K) (pv 1) pe_int (fun _ _ => rfl)) (pv 5))))))), fun y hy => ?_⟩
  obtain ⟨⟨tw, th, ps⟩, b, p, n⟩ := y
  obtain ⟨n0, n1⟩ := hy
  simp only at n0 n1
  have v {Δ : List Slot} {i : Nat} {z : Int} (h : Δ[i]? = some (.val (Dat K (.int z)))) : EvR (tVar i) Δ (Dat K (.int z)) := ev_var h
  have eT : ∀ {Δ : List Slot}, Δ[0]? = some (.val (Dat K (tabD ⟨tw, th, ps⟩))) → EvR (tVar 0) Δ (Dat K (.tuple [.int tw, .int th, .tuple (ps.map datP)])) := fun h => ev_var h
  have eB : ∀ {Δ : List Slot}, Δ[1]? = some (.val (Dat K (ballD b))) → EvR (tVar 1) Δ (Dat K (.tuple [.str b.n, .int b.x, .int b.y, .int b.dx, .int b.dy, .int b.m])) := fun h => ev_var h
  refine q_asg (ev_call (⟨tw, th, b, n⟩ : WlkA) (ea_cons (ev_ixT (eT rfl) ev_int rfl) (ea_cons (ev_ixT (eT rfl) ev_int rfl) (ea_cons (ev_var rfl) (ea_cons (v rfl) ea_nil)))) ⟨n0, n1⟩) ?_
  generalize hN : (n + 1).toNat = N
  have hz : N < sizeLine := Nat.lt_of_le_of_lt (show N ≤ 200000 by omega) (by decide)
  have hb62 : sizeLine < 2 ^ 62 := by decide
  refine sj_retD (ev_lcR1 (n := (N : Int)) (fun k => decide (psF tw th b k = p)) (fun k => .int (b.m + (k : Int))) (ea_cons ((ev_cb (ea_cons (ev_var rfl) ea_nil) kb_lenL).cast (congrArg PyData.int ?_)) ea_nil) ⟨by omega, by rw [Int.toNat_natCast]; exact hz⟩ fun k hk => ⟨_, _, gj_name, by simp, ?_, fun _ => ev_add (ev_ixT (eB rfl) ev_int rfl) (v rfl)⟩) rfl ?_
  · subst hN
    exact congrArg Int.ofNat rows_len
  · refine (et_test (ev_eqD (d := datP (psF tw th b k)) (d' := datP p) (ev_sl2 (ev_row (n := N) (ev_var rfl) (v rfl) (by omega))) (ev_var rfl) (shaped_datP _) (shaped_datP _))).cast (eqv_datP _ _)
  · show PyData.list _ = PyData.list ((lawMin tw th b p N).map .int)
    unfold lawMin
    rw [Int.toNat_natCast, List.map_map]
    rfl
end CU
/-! F11: the law's order, dues, meetings. -/
namespace CU
open PySem PySem.Spec PyProof.Rows L2 DL
variable {P : Program} {w : World} {K : PySem.W.Frag} {mg : Str → Option Value} {base : Heap}
def posD (w h : Int) (b : Bal) (n : Nat) : List PyData := (List.range n).map fun k => datP (psF w h b k)
theorem ev_pos {ta tb : TE} {Δ : List Slot} {w h : Int} {b : Bal} {n k : Nat} {z : Int} (ha : EvR ta Δ (Dat K (.list (posD w h b n)))) (hb : EvR tb Δ (Dat K (.int z))) (hz : z = (k : Int)) (hk : k < n) : EvR (tOp (rIxL K) ta tb) Δ (Dat K (datP (psF w h b k))) := by
  refine ev_ixL ha hb ?_
  rw [hz]
  refine atI_nat ?_
  unfold posD
  rw [List.getElem?_map, List.getElem?_range hk]
  rfl
theorem pos_len {w h : Int} {b : Bal} {n : Nat} : (posD w h b n).length = n := by
  unfold posD
  rw [List.length_map, List.length_range]
/-- [row[:2] for row in walk(..)] -/
theorem ev_posL {tl te : TE} {Δ : List Slot} {w h : Int} {b : Bal} {n : Nat} {i : Nat} (hl : EvR tl Δ (Dat K (.list (rowsD w h b n)))) (hz : n < sizeLine) (hi : i < (wipeD Δ [i]).length) (he : te = tSl (rSlT K) (tVar i) tNoPart (tPart (tC (.int 2)))) : EvR (tLc (iList K tl) (gName i) tYes te [i]) Δ (Dat K (.list (posD w h b n))) := by
  subst he
  exact (ev_lcL0 (xs := List.range n) (enc := rowD w h b) (fun k => datP (psF w h b k)) hl (by rw [List.length_range]; exact hz) fun k _ => ⟨_, _, gj_name, by simp, ev_sl2 (ev_var (by rw [List.getElem?_set_self hi]))⟩)
/-! ### in order -/
structure LInA where
  w : Int
  h : Int
  b : Bal
  pts : List Pt
structure LInOk (y : LInA) : Prop where
  sz : LSz y.w y.h
  few : y.pts.length ≤ 3
def argsLI (K : PySem.W.Frag) (y : LInA) : List RR := [Dat K (.int y.w), Dat K (.int y.h), Dat K (ballD y.b), Dat K (.list (y.pts.map datP))]
def sp__law_in_order (K : PySem.W.Frag) : Sp := spOf (argsLI K) LInOk (fun y => Dat K (ordD (lawIn y.w y.h y.b y.pts)))
theorem firstK_head (n : Nat) (p : Nat → Bool) : firstK n p = ((List.range n).filter p).head? := List.head?_filter.symm
theorem ok__law_in_order (T : TX K mg) : FnOk P w K mg base CX0 2 T.f__law_in_order T.d__law_in_order p__law_in_order (sp__law_in_order K) := by
  refine fn_ok T.F__law_in_order sc__law_in_order (fun _ => rfl) fun cdv A outer s H E hr => ⟨_, (pss_cons (ps_set (i := 4) sc__law_in_order.nd rfl (Or.inl rfl) (pe_lst pa_nil))
(pss_cons (ps_set (i := 5) sc__law_in_order.nd rfl (Or.inl rfl) pe_int)
(pss_cons (ps_set (i := 6) sc__law_in_order.nd rfl (Or.inr rfl) (pe_lc (own := [("_law_row_here", 7)]) (by rfl) sc__law_in_order.nd (kpi_list K rfl (pe_call (ok__law_walk T) (hr.mono (by decide)) (by rfl) T.g__law_walk T.F__law_walk.kp T.b__law_walk .nil pass0 (pa_cons (pv 0) (pa_cons (pv 1) (pa_cons (pv 2) (pa_cons (pe_op op_mul (pe_op op_mul (pe_op op_mul pe_int (pv 0)) (pv 1)) (pe_op op_add pe_int (pe_callB (id := "len") (kc_len K) (by rfl) T.z_len (by decide +kernel) (pa_cons (pv 3) pa_nil)))) pa_nil)))))) (blkOk_by (N := N__law_in_order) (sc := defScope s__law_in_order) (by decide +kernel)) (fun _ _ _ _ _ => pg_name (i := 7) sc__law_in_order.nd rfl (Or.inl rfl)) (fun _ _ _ _ _ => pts_nil) (fun _ _ _ _ _ => (pe_slice (ksl_tup K) (pv 7) po_none (po_some pe_int)))))
(pss_cons (ps_for PassesOwn.never rfl (kpi_list K rfl (pv 3)) (pg_name (i := 8) sc__law_in_order.nd rfl (Or.inr rfl))
(pss_cons (ps_setLc (i := 9) (own := [("_law_k", 10)]) (by rfl) sc__law_in_order.nd rfl rfl (sw_true rfl rfl rfl (by decide +kernel)) (pi_range2 (by rfl) T.z_range (pa_cons (pv 5) (pa_cons (pe_callB (id := "len") (kc_len K) (by rfl) T.z_len (by decide +kernel) (pa_cons (pv 6) pa_nil)) pa_nil))) (blkOk_by (N := N__law_in_order) (sc := defScope s__law_in_order) (by decide +kernel)) (fun _ _ _ _ _ => pg_name (i := 10) sc__law_in_order.nd rfl (Or.inl rfl)) (fun _ _ _ _ _ => pts_one (pt_cmpR (kop_eqD K rfl hr.units) (pe_ix (kix_list K) (pv 6) (pv 10) (fun _ _ => rfl)) (pv 8) (nomark _))) (fun _ _ _ _ _ => (pv 10)))
(pss_cons (ps_if (pt_cmpR op_eq (pe_callB (id := "len") (kc_len K) (by rfl) T.z_len (by decide +kernel) (pa_cons (pv 9) pa_nil)) pe_int (nomark _))
(pss_one (ps_ret pe_non))
pss_nil)
(pss_cons (kps_app K rfl (pv 4) (pa_cons (pe_op op_add (pe_ix (kix_tup K) (pv 2) pe_int (fun _ _ => rfl)) (pe_ix (kix_list K) (pv 9) pe_int (fun _ _ => rfl))) pa_nil))
(pss_one (ps_set (i := 5) sc__law_in_order.nd rfl (Or.inl rfl) (pe_op op_add (pe_ix (kix_list K) (pv 9) pe_int (fun _ _ => rfl)) pe_int)))))))
(pss_one (ps_ret (pv 4))))))), fun y hy => ?_⟩
  obtain ⟨tw, th, b, pts⟩ := y
  obtain ⟨sz, few⟩ := hy
  simp only at sz few
  have hwh := sz.wh
  obtain ⟨w1, w6, h1, h6⟩ := sz
  have v {Δ : List Slot} {i : Nat} {z : Int} (h : Δ[i]? = some (.val (Dat K (.int z)))) : EvR (tVar i) Δ (Dat K (.int z)) := ev_var h
  have eB : ∀ {Δ : List Slot}, Δ[2]? = some (.val (Dat K (ballD b))) → EvR (tVar 2) Δ (Dat K (.tuple [.str b.n, .int b.x, .int b.y, .int b.dx, .int b.dy, .int b.m])) := fun h => ev_var h
  refine q_new (K := K) ?_
  refine q_asg (R := Dat K (.int ((0 : Nat) : Int))) ev_int ?_
  have hL : (1 : Int) ≤ 1 + (pts.length : Int) ∧ 1 + (pts.length : Int) ≤ 4 := by omega
  have hNN : 0 ≤ 4 * tw * th * (1 + (pts.length : Int)) ∧ 4 * tw * th * (1 + (pts.length : Int)) ≤ 144 * 4 :=
    ⟨Int.mul_nonneg (by omega) (by omega), Int.mul_le_mul hwh.2 hL.2 (by omega) (by decide)⟩
  have hNb : (4 * tw * th * (1 + (pts.length : Int)) + 1).toNat ≤ 1000 := by omega
  refine q_asg (R := Dat K (.list (posD tw th b (4 * tw * th * (1 + (pts.length : Int)) + 1).toNat))) (ev_posL (ev_call (⟨tw, th, b, 4 * tw * th * (1 + (pts.length : Int))⟩ : WlkA) (ea_cons (v rfl) (ea_cons (v rfl) (ea_cons (ev_var rfl) (ea_cons (ev_mul (ev_mul (ev_mul ev_int (v rfl) cmul4) (v rfl) (cmulR (by omega) (by omega))) ((ev_add ev_int (ev_cb (ea_cons (ev_var rfl) ea_nil) kb_lenL)).cast (by rw [List.length_map])) (cmulR (by omega) (by omega))) ea_nil)))) ⟨hNN.1, by show 4 * tw * th * (1 + (pts.length : Int)) ≤ 100000; omega⟩) (Nat.lt_of_le_of_lt hNb (by decide)) (by show 7 < 11; decide) rfl) ?_
  show SJ _ _ (retA (Dat K (ordD (lawOrd (4 * tw * th * (1 + (pts.length : Int)) + 1).toNat (psF tw th b) b.m pts 0))))
  generalize (4 * tw * th * (1 + (pts.length : Int)) + 1).toNat = N at hNb ⊢
  refine sj_seq (M := fun Δ' => ∃ (acc : List Int) (s5 s7 s8 s9 s10 : Slot), Δ' = [.val (Dat K (.int tw)), .val (Dat K (.int th)), .val (Dat K (ballD b)), .val (Dat K (.list (pts.map datP))), .opn (OLst K (acc.map .int)), s5, .val (Dat K (.list (posD tw th b N))), s7, s8, s9, s10] ∧ lawOrd N (psF tw th b) b.m pts 0 = some acc)
    (sj_forL (ds := pts.map datP) (ev_var rfl) (fun i Δ' => ∃ (acc : List Int) (fol : Nat) (s7 s8 s9 s10 : Slot), Δ' = [.val (Dat K (.int tw)), .val (Dat K (.int th)), .val (Dat K (ballD b)), .val (Dat K (.list (pts.map datP))), .opn (OLst K (acc.map .int)), .val (Dat K (.int (fol : Int))), .val (Dat K (.list (posD tw th b N))), s7, s8, s9, s10] ∧ acc.length = i ∧ fol ≤ N ∧ lawOrd N (psF tw th b) b.m pts 0 = (lawOrd N (psF tw th b) b.m (pts.drop i) fol).map (acc ++ ·))
      ⟨[], 0, _, _, _, _, rfl, rfl, Nat.zero_le _, by rw [List.drop_zero]; cases lawOrd N (psF tw th b) b.m pts 0 <;> rfl⟩ (fun i d Δ' hd hP => ?_) (fun Δ' hP => ?_)) ?_
  · obtain ⟨acc, fol, s7, s8, s9, s10, rfl, hl, hf, ho⟩ := hP
    obtain ⟨p, hp, rfl⟩ := map_get hd
    have hi : i < pts.length := (List.getElem?_eq_some_iff.mp hp).1
    have dr : pts.drop i = p :: pts.drop (i + 1) := by
      rw [List.drop_eq_getElem_cons hi, (List.getElem?_eq_some_iff.mp hp).2]
    rw [dr] at ho
    have e1 : lawOrd N (psF tw th b) b.m (p :: pts.drop (i + 1)) fol = match firstK (N - fol) (fun i => decide (psF tw th b (fol + i) = p)) with
      | none => none
      | some i' => (lawOrd N (psF tw th b) b.m (pts.drop (i + 1)) (fol + i' + 1)).map ((b.m + ((fol + i' : Nat) : Int)) :: ·) := rfl
    rw [e1, firstK_head] at ho
    refine ⟨_, _, gj_name, ?_⟩
    have hsz : N < sizeLine := Nat.lt_of_le_of_lt hNb (by decide)
    have hb62 : sizeLine < 2 ^ 62 := by decide
    refine q_asg (R := Dat K (.list ((((List.range (N - fol)).filter fun i => decide (psF tw th b (fol + i) = p)).map fun i : Nat => ((fol + i : Nat) : Int)).map .int))) ((ev_lcR2 (lo := (fol : Int)) (n := (N : Int)) (fun i => decide (psF tw th b (fol + i) = p)) (fun i => .int ((fol + i : Nat) : Int)) (ea_cons (v rfl) (ea_cons ((ev_cb (ea_cons (ev_var (R := Dat K (.list (posD tw th b N))) rfl) ea_nil) kb_lenL).cast (congrArg PyData.int (congrArg Int.ofNat pos_len))) ea_nil)) ⟨⟨by omega, by omega, by omega, by omega⟩, by omega⟩ fun k hk => ⟨_, _, gj_name, by simp, ?_, fun _ => v rfl⟩).cast ?_) ?_
    · exact (et_test (ev_eqD (d := datP (psF tw th b (fol + k))) (d' := datP p) (ev_pos (n := N) (ev_var rfl) (v rfl) (by omega) (by omega)) (ev_var rfl) (shaped_datP _) (shaped_datP _))).cast (eqv_datP _ _)
    · have e2 : ((N : Int) - (fol : Int)).toNat = N - fol := by omega
      rw [e2, List.map_map]
      rfl
    revert ho
    cases hF : (List.range (N - fol)).filter fun i => decide (psF tw th b (fol + i) = p) with
    | nil =>
      intro ho
      refine q_ifT (et_test (ev_eqI (ev_cb (ea_cons (ev_var (R := Dat K (.list [])) rfl) ea_nil) kb_lenL) ev_int)) rfl (sj_seqR (sj_retD ev_non rfl ?_))
      rw [ho]
      rfl
    | cons k r =>
      intro ho
      have hk : k < N - fol := by
        have : k ∈ (List.range (N - fol)).filter fun i => decide (psF tw th b (fol + i) = p) := by rw [hF]; exact List.mem_cons_self
        exact List.mem_range.mp (List.mem_filter.mp this).1
      have e9 : ∀ {Δ : List Slot}, Δ[9]? = some (.val (Dat K (.list (((k :: r).map fun i : Nat => ((fol + i : Nat) : Int)).map .int)))) → EvR (tOp (rIxL K) (tVar 9) (tC (.int 0))) Δ (Dat K (.int ((fol + k : Nat) : Int))) := fun h => ev_ixL (ev_var h) ev_int (atI_nat (j := 0) rfl)
      refine q_ifF (et_test (ev_eqI (ev_cb (ea_cons (ev_var (R := Dat K (.list (((k :: r).map fun i : Nat => ((fol + i : Nat) : Int)).map .int))) rfl) ea_nil) kb_lenL) ev_int)) (decide_eq_false (by rw [List.length_map, List.length_map, List.length_cons]; omega)) (sj_seqN ?_)
      refine q_app (d := .int (b.m + ((fol + k : Nat) : Int))) rfl (ev_add (ev_ixT (eB rfl) ev_int rfl) (e9 rfl)) (by rw [List.length_map, hl]; exact Nat.lt_of_lt_of_le hi (Nat.le_trans few (by decide))) ?_
      refine sj_asg (R := Dat K (.int ((fol + k + 1 : Nat) : Int))) (ev_add (e9 rfl) ev_int) ?_
      refine ⟨acc ++ [b.m + ((fol + k : Nat) : Int)], fol + k + 1, _, _, _, _, by rw [List.map_append]; rfl, by rw [List.length_append, hl]; rfl, by omega, ?_⟩
      rw [ho]
      show Option.map (acc ++ ·) (Option.map ((b.m + ((fol + k : Nat) : Int)) :: ·) (lawOrd N (psF tw th b) b.m (pts.drop (i + 1)) (fol + k + 1))) = _
      cases lawOrd N (psF tw th b) b.m (pts.drop (i + 1)) (fol + k + 1) with
      | none => rfl
      | some l =>
        show some (acc ++ (b.m + ((fol + k : Nat) : Int)) :: l) = some (acc ++ [b.m + ((fol + k : Nat) : Int)] ++ l)
        rw [List.append_assoc]
        rfl
  · obtain ⟨acc, fol, s7, s8, s9, s10, rfl, hl, hf, ho⟩ := hP
    refine ⟨acc, _, _, _, _, _, rfl, ?_⟩
    rw [ho, List.length_map, List.drop_length]
    show some (acc ++ []) = some acc
    rw [List.append_nil]
  · rintro Δ' ⟨acc, s5, s7, s8, s9, s10, rfl, ho⟩
    refine sj_frz (i := 4) rfl ?_
    refine sj_retD (ev_var rfl) rfl ?_
    rw [ho]
    rfl
theorem lawOrd_len {n : Nat} {pos : Nat → Pt} {m : Int} : ∀ {pts : List Pt} {fol : Nat} {l : List Int}, lawOrd n pos m pts fol = some l → l.length = pts.length
  | [], fol, l, h => by
    cases Option.some.inj h
    rfl
  | p :: ps, fol, l, h => by
    have e1 : lawOrd n pos m (p :: ps) fol = match firstK (n - fol) (fun i => decide (pos (fol + i) = p)) with
      | none => none
      | some i' => (lawOrd n pos m ps (fol + i' + 1)).map ((m + ((fol + i' : Nat) : Int)) :: ·) := rfl
    rw [e1] at h
    cases hk : firstK (n - fol) (fun i => decide (pos (fol + i) = p)) with
    | none =>
      rw [hk] at h
      cases h
    | some i =>
      rw [hk] at h
      cases hr : lawOrd n pos m ps (fol + i + 1) with
      | none =>
        simp only [hr] at h
        cases h
      | some r =>
        simp only [hr] at h
        cases Option.some.inj h
        rw [List.length_cons, List.length_cons, lawOrd_len hr]
/-! ### dues -/
structure DueOk (y : DueA) : Prop where
  sz : LSz y.w y.h
  few : y.pts.length ≤ 3
  m0 : 0 ≤ y.m
  m1 : y.m ≤ 100
def argsDu (K : PySem.W.Frag) (y : DueA) : List RR := [Dat K (tabD ⟨y.w, y.h, y.ps⟩), Dat K (datP y.p), Dat K (.int y.m), Dat K (datP y.k), Dat K (.list (y.pts.map datP))]
noncomputable def dueD (y : DueA) : PyData := .list [.list ((sortM (dirs.filterMap (dueFall y))).map minD), .list ((sortM (dirs.filterMap (dueOrd y))).map minD)]
def sp__law_due (K : PySem.W.Frag) : Sp := spOf (argsDu K) DueOk (fun y => Dat K (dueD y))
theorem maxDf_is {d : Int} {l : List Int} (h : l ≠ []) : IsMax (maxDf d l) l := by
  cases l with
  | nil => exact absurd rfl h
  | cons a l => exact maxOf_is a l
theorem lawFall_near {w h : Int} {ps : List Pt} {b : Bal} {t : Int} (z : LSz w h) (e : lawFall w h ps b = some t) : b.m ≤ t ∧ t ≤ b.m + 144 := by
  have hwh := z.wh
  unfold lawFall at e
  rcases firstK_inv (n := (4 * w * h + 1).toNat) (p := fun k => decide (psF w h b k ∈ ps)) with ⟨h1, _⟩ | ⟨k, h1, _, h2, _⟩
  · rw [h1] at e
    cases e
  · rw [h1] at e
    have h3 : b.m + (k : Int) = t := Option.some.inj e
    omega
theorem ok__law_due (T : TX K mg) : FnOk P w K mg base CX0 3 T.f__law_due T.d__law_due p__law_due (sp__law_due K) := by
  refine fn_ok T.F__law_due sc__law_due (fun _ => rfl) fun cdv A outer s H E hr => ⟨_, (pss_cons (ps_set (i := 5) sc__law_due.nd rfl (Or.inl rfl) (pe_lst pa_nil))
(pss_cons (ps_set (i := 6) sc__law_due.nd rfl (Or.inl rfl) (pe_lst pa_nil))
(pss_cons (ps_for PassesOwn.never rfl (kpi_list K rfl (pe_call0 (ok__law_directions T) (hr.mono (by decide)) (by rfl) T.g__law_directions T.F__law_directions.kp T.b__law_directions .nil pass0)) (kpg_tup (n := 2) K rfl rfl (pgs_cons (pg_name (i := 7) sc__law_due.nd rfl (Or.inl rfl)) (pgs_cons (pg_name (i := 8) sc__law_due.nd rfl (Or.inl rfl)) pgs_nil)))
(pss_cons (ps_set (i := 9) sc__law_due.nd rfl (Or.inl rfl) (pe_tup (pa_cons pe_str (pa_cons (pe_ix (kix_tup K) (pv 1) pe_int (fun _ _ => rfl)) (pa_cons (pe_ix (kix_tup K) (pv 1) pe_int (fun _ _ => rfl)) (pa_cons (pv 7) (pa_cons (pv 8) (pa_cons (pv 2) pa_nil))))))))
(pss_cons (ps_set (i := 10) sc__law_due.nd rfl (Or.inl rfl) (pe_call (ok__law_fall T) (hr.mono (by decide)) (by rfl) T.g__law_fall T.F__law_fall.kp T.b__law_fall .nil pass0 (pa_cons (pv 0) (pa_cons (pv 9) pa_nil))))
(pss_cons (ps_if (PW.pt (pw_and (pt_cmpR op_notN (pv 10) pe_non (nomark _)) (pw_and1 (pt_cmpR (kop_in_seq K) (pv 10) (pe_call (ok__law_minutes T) (hr.mono (by decide)) (by rfl) T.g__law_minutes T.F__law_minutes.kp T.b__law_minutes .nil pass0 (pa_cons (pv 0) (pa_cons (pv 9) (pa_cons (pv 3) (pa_cons (pe_op op_sub (pv 10) (pv 2)) pa_nil))))) (by rfl)))))
(pss_one (kps_app K rfl (pv 5) (pa_cons (pe_tup (pa_cons (pv 10) (pa_cons (pe_tup (pa_cons (pv 7) (pa_cons (pv 8) pa_nil))) pa_nil))) pa_nil)))
pss_nil)
(pss_cons (ps_set (i := 11) sc__law_due.nd rfl (Or.inl rfl) (pe_call (ok__law_in_order T) (hr.mono (by decide)) (by rfl) T.g__law_in_order T.F__law_in_order.kp T.b__law_in_order .nil pass0 (pa_cons (pe_ix (kix_tup K) (pv 0) pe_int (fun _ _ => rfl)) (pa_cons (pe_ix (kix_tup K) (pv 0) pe_int (fun _ _ => rfl)) (pa_cons (pv 9) (pa_cons (pv 4) pa_nil))))))
(pss_one (ps_if (pt_cmpR op_notN (pv 11) pe_non (nomark _))
(pss_one (kps_app K rfl (pv 6) (pa_cons (pe_tup (pa_cons (pe_callB (id := "max") (kc_max K rfl rfl) (by rfl) T.z_max (by decide +kernel) (pa_cons (pe_op op_cat (pv 11) (pe_lst (pa_cons (pv 2) pa_nil))) pa_nil)) (pa_cons (pe_tup (pa_cons (pv 7) (pa_cons (pv 8) pa_nil))) pa_nil))) pa_nil)))
pss_nil)))))))
(pss_one (ps_ret (pe_lst (pa_cons (pe_callB (id := "sorted") (kc_sorted K rfl hr.units) (by rfl) T.z_sorted (by decide +kernel) (pa_cons (pv 5) pa_nil)) (pa_cons (pe_callB (id := "sorted") (kc_sorted K rfl hr.units) (by rfl) T.z_sorted (by decide +kernel) (pa_cons (pv 6) pa_nil)) pa_nil)))))))), fun y hy => ?_⟩
  obtain ⟨sz, few, m0, m1⟩ := hy
  have v {Δ : List Slot} {i : Nat} {z : Int} (h : Δ[i]? = some (.val (Dat K (.int z)))) : EvR (tVar i) Δ (Dat K (.int z)) := ev_var h
  have eT : ∀ {Δ : List Slot}, Δ[0]? = some (.val (Dat K (tabD ⟨y.w, y.h, y.ps⟩))) → EvR (tVar 0) Δ (Dat K (.tuple [.int y.w, .int y.h, .tuple (y.ps.map datP)])) := fun h => ev_var h
  have eP : ∀ {Δ : List Slot}, Δ[1]? = some (.val (Dat K (datP y.p))) → EvR (tVar 1) Δ (Dat K (.tuple [.int y.p.1, .int y.p.2])) := fun h => ev_var h
  refine q_new (K := K) (q_new (K := K) ?_)
  refine sj_seq (M := fun Δ' => ∃ (s7 s8 s9 s10 s11 : Slot), Δ' = [.val (Dat K (tabD ⟨y.w, y.h, y.ps⟩)), .val (Dat K (datP y.p)), .val (Dat K (.int y.m)), .val (Dat K (datP y.k)), .val (Dat K (.list (y.pts.map datP))), .opn (OLst K ((dirs.filterMap (dueFall y)).map minD)), .opn (OLst K ((dirs.filterMap (dueOrd y)).map minD)), s7, s8, s9, s10, s11])
    (sj_forL (ds := dirs.map datP) (ev_call () ea_nil trivial) (fun i Δ' => ∃ (s7 s8 s9 s10 s11 : Slot), Δ' = [.val (Dat K (tabD ⟨y.w, y.h, y.ps⟩)), .val (Dat K (datP y.p)), .val (Dat K (.int y.m)), .val (Dat K (datP y.k)), .val (Dat K (.list (y.pts.map datP))), .opn (OLst K (((dirs.take i).filterMap (dueFall y)).map minD)), .opn (OLst K (((dirs.take i).filterMap (dueOrd y)).map minD)), s7, s8, s9, s10, s11])
      ⟨_, _, _, _, _, rfl⟩ (fun i d Δ' hd hP => ?_) (fun Δ' hP => ?_)) ?_
  · obtain ⟨s7, s8, s9, s10, s11, rfl⟩ := hP
    obtain ⟨d, hp, rfl⟩ := map_get hd
    have hl1 := fm_len (dueFall y) dirs i
    have hl2 := fm_len (dueOrd y) dirs i
    have z1 : (((dirs.take i).filterMap (dueFall y)).map minD).length < sizeLine := by
      rw [List.length_map]
      exact Nat.lt_of_le_of_lt hl1 (by decide)
    have z2 : (((dirs.take i).filterMap (dueOrd y)).map minD).length < sizeLine := by
      rw [List.length_map]
      exact Nat.lt_of_le_of_lt hl2 (by decide)
    have t1 := fm_take (dueFall y) dirs i d hp
    have t2 := fm_take (dueOrd y) dirs i d hp
    have e1 : dueFall y d = match lawFall y.w y.h y.ps (redB y.p y.m d) with
      | none => none
      | some t => if t ∈ lawMin y.w y.h (redB y.p y.m d) y.k (t - y.m + 1).toNat then some (t, d) else none := rfl
    have e2 : dueOrd y d = match lawIn y.w y.h (redB y.p y.m d) y.pts with
      | none => none
      | some l => some (maxDf 0 (l ++ [y.m]), d) := rfl
    refine ⟨_, _, gj_tup (ds := [.int d.1, .int d.2]) rfl (gjs_cons gj_name (gjs_cons gj_name gjs_nil)), ?_⟩
    refine q_asg (R := Dat K (ballD (redB y.p y.m d))) (ev_tup (ds := [.str "red", .int y.p.1, .int y.p.2, .int d.1, .int d.2, .int y.m]) (ea_cons ev_str (ea_cons (ev_ixT (eP rfl) ev_int rfl) (ea_cons (ev_ixT (eP rfl) ev_int rfl) (ea_cons (v rfl) (ea_cons (v rfl) (ea_cons (v rfl) ea_nil)))))) (by show 6 ≤ sizeLine; decide)) ?_
    refine q_asg (R := Dat K (optI (lawFall y.w y.h y.ps (redB y.p y.m d)))) (ev_call (⟨⟨y.w, y.h, y.ps⟩, redB y.p y.m d⟩ : LFaA) (ea_cons (ev_var rfl) (ea_cons (ev_var rfl) ea_nil)) sz) ?_
    refine sj_seq1 (Δ' := [.val (Dat K (tabD ⟨y.w, y.h, y.ps⟩)), .val (Dat K (datP y.p)), .val (Dat K (.int y.m)), .val (Dat K (datP y.k)), .val (Dat K (.list (y.pts.map datP))), .opn (OLst K (((dirs.take (i + 1)).filterMap (dueFall y)).map minD)), .opn (OLst K (((dirs.take i).filterMap (dueOrd y)).map minD)), .val (Dat K (.int d.1)), .val (Dat K (.int d.2)), .val (Dat K (ballD (redB y.p y.m d))), .val (Dat K (optI (lawFall y.w y.h y.ps (redB y.p y.m d)))), s11]) ?_ ?_
    · rw [t1, e1]
      have near := fun t => lawFall_near (ps := y.ps) (b := redB y.p y.m d) (t := t) sz
      generalize lawFall y.w y.h y.ps (redB y.p y.m d) = f at near ⊢
      match f, near with
      | none, _ =>
        refine sj_ifF (et_and (b := false) (et_test (ev_notN (K := K) (d := .none) (ev_var rfl) ev_non)) fun h => by cases h) rfl (sj_next ?_)
        dsimp only
        rw [Option.toList_none, List.append_nil]
        rfl
      | some t, near =>
        have nt := near t rfl
        have nm : (redB y.p y.m d).m = y.m := rfl
        rw [nm] at nt
        refine sj_if (et_and (et_test (ev_notN (K := K) (d := .int t) (ev_var rfl) ev_non)) fun _ => et_test (ev_inIL (i := t) (ns := lawMin y.w y.h (redB y.p y.m d) y.k (t - y.m + 1).toNat) (v rfl) (ev_call (⟨⟨y.w, y.h, y.ps⟩, redB y.p y.m d, y.k, t - y.m⟩ : LMiA) (ea_cons (ev_var rfl) (ea_cons (ev_var rfl) (ea_cons (ev_var rfl) (ea_cons (ev_sub (v rfl) (v rfl)) ea_nil)))) ⟨by show 0 ≤ t - y.m; omega, by show t - y.m ≤ 100000; omega⟩))) (fun hb => ?_) (fun hb => ?_)
        · have ht : t ∈ lawMin y.w y.h (redB y.p y.m d) y.k (t - y.m + 1).toNat := of_decide_eq_true (by simpa [isNoneD] using hb)
          simp only [if_pos ht]
          refine sj_app (d := minD (t, d)) rfl (ev_tup (ds := [.int t, datP d]) (ea_cons (v rfl) (ea_cons (ev_pr (v rfl) (v rfl)) ea_nil)) (by show 2 ≤ sizeLine; decide)) z1 ?_
          dsimp only
          rw [Option.toList_some, List.map_append]
          rfl
        · have ht : ¬ t ∈ lawMin y.w y.h (redB y.p y.m d) y.k (t - y.m + 1).toNat := by simpa [isNoneD] using hb
          simp only [if_neg ht]
          refine sj_next ?_
          dsimp only
          rw [Option.toList_none, List.append_nil]
          rfl
    · refine q_asg (R := Dat K (ordD (lawIn y.w y.h (redB y.p y.m d) y.pts))) (ev_call (⟨y.w, y.h, redB y.p y.m d, y.pts⟩ : LInA) (ea_cons (ev_ixT (eT rfl) ev_int rfl) (ea_cons (ev_ixT (eT rfl) ev_int rfl) (ea_cons (ev_var rfl) (ea_cons (ev_var rfl) ea_nil)))) ⟨sz, few⟩) ?_
      dsimp only
      rw [t2, e2]
      have hln := fun l => lawOrd_len (n := (4 * y.w * y.h * (1 + (y.pts.length : Int)) + 1).toNat) (pos := psF y.w y.h (redB y.p y.m d)) (m := y.m) (pts := y.pts) (fol := 0) (l := l)
      have el : lawIn y.w y.h (redB y.p y.m d) y.pts = lawOrd (4 * y.w * y.h * (1 + (y.pts.length : Int)) + 1).toNat (psF y.w y.h (redB y.p y.m d)) y.m y.pts 0 := rfl
      rw [← el] at hln
      generalize lawIn y.w y.h (redB y.p y.m d) y.pts = f at hln ⊢
      match f, hln with
      | none, _ =>
        refine sj_ifF (et_test (ev_notN (K := K) (d := .none) (ev_var rfl) ev_non)) rfl (sj_next ?_)
        dsimp only
        rw [Option.toList_none, List.append_nil]
        exact ⟨_, _, _, _, _, rfl⟩
      | some l, hln =>
        have hl3 := hln l rfl
        refine sj_ifT (et_test (ev_notN (K := K) (d := .list (l.map .int)) (ev_var rfl) ev_non)) rfl ?_
        refine sj_app (d := minD (maxDf 0 (l ++ [y.m]), d)) rfl (ev_tup (ds := [.int (maxDf 0 (l ++ [y.m])), datP d]) (ea_cons (ev_cb (ea_cons ((ev_cat (ds := l.map .int) (es := [.int y.m]) (ev_var rfl) (ev_lst (ds := [.int y.m]) (ea_cons (v rfl) ea_nil) (by show 1 ≤ sizeLine; decide)) (by rw [List.length_map]; exact Nat.le_trans (show l.length + 1 ≤ 4 by omega) (by decide))).cast (d' := .list ((l ++ [y.m]).map .int)) (by rw [List.map_append]; rfl)) ea_nil) (cb_max (maxDf_is (by simp)))) (ea_cons (ev_pr (v rfl) (v rfl)) ea_nil)) (by show 2 ≤ sizeLine; decide)) z2 ?_
        dsimp only
        rw [Option.toList_some, List.map_append]
        exact ⟨_, _, _, _, _, rfl⟩
  · obtain ⟨s7, s8, s9, s10, s11, rfl⟩ := hP
    rw [List.length_map, List.take_length]
    exact ⟨_, _, _, _, _, rfl⟩
  · rintro Δ' ⟨s7, s8, s9, s10, s11, rfl⟩
    refine sj_frz (i := 5) rfl (sj_frz (i := 6) rfl ?_)
    exact sj_retD (ev_lst (ds := [.list ((sortM (dirs.filterMap (dueFall y))).map minD), .list ((sortM (dirs.filterMap (dueOrd y))).map minD)]) (ea_cons (ev_cb (ea_cons (ev_var rfl) ea_nil) cb_sortM) (ea_cons (ev_cb (ea_cons (ev_var rfl) ea_nil) cb_sortM) ea_nil)) (by show 2 ≤ sizeLine; decide)) rfl rfl
/-! ### meetings -/
structure LMtA where
  w : Int
  h : Int
  b : Bal
  c : Bal
structure LMtOk (y : LMtA) : Prop where
  sz : LSz y.w y.h
  b0 : 0 ≤ y.b.m
  b9 : y.b.m ≤ 9
  c0 : 0 ≤ y.c.m
  c9 : y.c.m ≤ 9
def argsLt (K : PySem.W.Frag) (y : LMtA) : List RR := [Dat K (.int y.w), Dat K (.int y.h), Dat K (ballD y.b), Dat K (ballD y.c)]
def sp__law_first_meeting (K : PySem.W.Frag) : Sp := spOf (argsLt K) LMtOk (fun y => Dat K (optI (lawMeet y.w y.h y.b y.c)))
theorem ok__law_first_meeting (T : TX K mg) : FnOk P w K mg base CX0 2 T.f__law_first_meeting T.d__law_first_meeting p__law_first_meeting (sp__law_first_meeting K) := by
  refine fn_ok T.F__law_first_meeting sc__law_first_meeting (fun _ => rfl) fun cdv A outer s H E hr => ⟨_, (pss_cons (ps_set (i := 4) sc__law_first_meeting.nd rfl (Or.inl rfl) (pe_callB (id := "max") (call_max2 rfl) (by rfl) T.z_max (by decide +kernel) (pa_cons (pe_ix (kix_tup K) (pv 2) pe_int (fun _ _ => rfl)) (pa_cons (pe_ix (kix_tup K) (pv 3) pe_int (fun _ _ => rfl)) pa_nil))))
(pss_cons (ps_set (i := 5) sc__law_first_meeting.nd rfl (Or.inl rfl) (pe_op op_add (pe_op op_mul (pe_op op_mul pe_int (pv 0)) (pv 1)) pe_int))
(pss_cons (ps_setLc (i := 6) (own := [("_law_row_here", 7)]) (by rfl) sc__law_first_meeting.nd rfl rfl (sw_true rfl rfl rfl (by decide +kernel)) (kpi_list K rfl (pe_call (ok__law_walk T) (hr.mono (by decide)) (by rfl) T.g__law_walk T.F__law_walk.kp T.b__law_walk .nil pass0 (pa_cons (pv 0) (pa_cons (pv 1) (pa_cons (pv 2) (pa_cons (pv 5) pa_nil)))))) (blkOk_by (N := N__law_first_meeting) (sc := defScope s__law_first_meeting) (by decide +kernel)) (fun _ _ _ _ _ => pg_name (i := 7) sc__law_first_meeting.nd rfl (Or.inl rfl)) (fun _ _ _ _ _ => pts_nil) (fun _ _ _ _ _ => (pe_slice (ksl_tup K) (pv 7) po_none (po_some pe_int))))
(pss_cons (ps_setLc (i := 8) (own := [("_law_row_here", 7)]) (by rfl) sc__law_first_meeting.nd rfl rfl (sw_true rfl rfl rfl (by decide +kernel)) (kpi_list K rfl (pe_call (ok__law_walk T) (hr.mono (by decide)) (by rfl) T.g__law_walk T.F__law_walk.kp T.b__law_walk .nil pass0 (pa_cons (pv 0) (pa_cons (pv 1) (pa_cons (pv 3) (pa_cons (pv 5) pa_nil)))))) (blkOk_by (N := N__law_first_meeting) (sc := defScope s__law_first_meeting) (by decide +kernel)) (fun _ _ _ _ _ => pg_name (i := 7) sc__law_first_meeting.nd rfl (Or.inl rfl)) (fun _ _ _ _ _ => pts_nil) (fun _ _ _ _ _ => (pe_slice (ksl_tup K) (pv 7) po_none (po_some pe_int))))
(pss_cons (ps_for PassesOwn.never rfl (pi_range2 (by rfl) T.z_range (pa_cons (pv 4) (pa_cons (pe_op op_add (pv 4) (pe_op op_mul (pe_op op_mul pe_int (pv 0)) (pv 1))) pa_nil))) (pg_name (i := 9) sc__law_first_meeting.nd rfl (Or.inl rfl))
(pss_one (ps_if (pt_cmpR (kop_eqD K rfl hr.units) (pe_ix (kix_list K) (pv 6) (pe_op op_sub (pv 9) (pe_ix (kix_tup K) (pv 2) pe_int (fun _ _ => rfl))) (fun _ _ => rfl)) (pe_ix (kix_list K) (pv 8) (pe_op op_sub (pv 9) (pe_ix (kix_tup K) (pv 3) pe_int (fun _ _ => rfl))) (fun _ _ => rfl)) (nomark _))
(pss_one (ps_ret (pv 9)))
pss_nil)))
(pss_one (ps_ret pe_non))))))), fun y hy => ?_⟩
  obtain ⟨tw, th, b, c⟩ := y
  obtain ⟨sz, b0, b9, c0, c9⟩ := hy
  simp only at sz b0 b9 c0 c9
  have hwh := sz.wh
  obtain ⟨w1, w6, h1, h6⟩ := sz
  have v {Δ : List Slot} {i : Nat} {z : Int} (h : Δ[i]? = some (.val (Dat K (.int z)))) : EvR (tVar i) Δ (Dat K (.int z)) := ev_var h
  have eB : ∀ {Δ : List Slot}, Δ[2]? = some (.val (Dat K (ballD b))) → EvR (tVar 2) Δ (Dat K (.tuple [.str b.n, .int b.x, .int b.y, .int b.dx, .int b.dy, .int b.m])) := fun h => ev_var h
  have eC : ∀ {Δ : List Slot}, Δ[3]? = some (.val (Dat K (ballD c))) → EvR (tVar 3) Δ (Dat K (.tuple [.str c.n, .int c.x, .int c.y, .int c.dx, .int c.dy, .int c.m])) := fun h => ev_var h
  refine q_asg (R := Dat K (.int (maxI b.m c.m))) (ev_cb (ea_cons (ev_ixT (eB rfl) ev_int rfl) (ea_cons (ev_ixT (eC rfl) ev_int rfl) ea_nil)) cb_max2) ?_
  refine q_asg (ev_add (ev_mul (ev_mul ev_int (v rfl) cmul4) (v rfl) (cmulR (show 0 ≤ th by omega) (show th < 1000 by omega))) ev_int) ?_
  have hz : (4 * tw * th + 10 + 1).toNat < sizeLine := Nat.lt_of_le_of_lt (show _ ≤ 1000 by omega) (by decide)
  refine q_asg (R := Dat K (.list (posD tw th b (4 * tw * th + 10 + 1).toNat))) (ev_posL (ev_call (⟨tw, th, b, 4 * tw * th + 10⟩ : WlkA) (ea_cons (v rfl) (ea_cons (v rfl) (ea_cons (ev_var rfl) (ea_cons (v rfl) ea_nil)))) ⟨by show 0 ≤ 4 * tw * th + 10; omega, by show 4 * tw * th + 10 ≤ 100000; omega⟩) hz (by show 7 < 10; decide) rfl) ?_
  refine q_asg (R := Dat K (.list (posD tw th c (4 * tw * th + 10 + 1).toNat))) (ev_posL (ev_call (⟨tw, th, c, 4 * tw * th + 10⟩ : WlkA) (ea_cons (v rfl) (ea_cons (v rfl) (ea_cons (ev_var rfl) (ea_cons (v rfl) ea_nil)))) ⟨by show 0 ≤ 4 * tw * th + 10; omega, by show 4 * tw * th + 10 ≤ 100000; omega⟩) hz (by show 7 < 10; decide) rfl) ?_
  show SJ _ _ (retA (Dat K (optI (lawMeet tw th b c))))
  have em : lawMeet tw th b c = (firstK (4 * tw * th).toNat fun i => decide (psF tw th b (maxI b.m c.m + (i : Int) - b.m).toNat = psF tw th c (maxI b.m c.m + (i : Int) - c.m).toNat)).map fun i : Nat => maxI b.m c.m + (i : Int) := rfl
  have hmx : b.m ≤ maxI b.m c.m ∧ c.m ≤ maxI b.m c.m ∧ maxI b.m c.m ≤ 9 := by
    unfold maxI
    split <;> omega
  rw [em]
  generalize maxI b.m c.m = st at hmx ⊢
  refine sj_seq (M := fun Δ' => (firstK (4 * tw * th).toNat fun i => decide (psF tw th b (st + (i : Int) - b.m).toNat = psF tw th c (st + (i : Int) - c.m).toNat)) = none) (sj_forR2 (lo := st) (n := st + 4 * tw * th) (ea_cons (v rfl) (ea_cons (ev_add (v rfl) (ev_mul (ev_mul ev_int (v rfl) cmul4) (v rfl) (cmulR (by omega) (by omega)))) ea_nil)) ⟨by omega, by omega, by omega, by omega⟩
      (fun i Δ' => ∃ (s7 s9 : Slot), Δ' = [.val (Dat K (.int tw)), .val (Dat K (.int th)), .val (Dat K (ballD b)), .val (Dat K (ballD c)), .val (Dat K (.int st)), .val (Dat K (.int (4 * tw * th + 10))), .val (Dat K (.list (posD tw th b (4 * tw * th + 10 + 1).toNat))), s7, .val (Dat K (.list (posD tw th c (4 * tw * th + 10 + 1).toNat))), s9] ∧ ∀ j : Nat, j < i → decide (psF tw th b (st + (j : Int) - b.m).toNat = psF tw th c (st + (j : Int) - c.m).toNat) = false)
      ⟨_, _, rfl, fun j hj => by omega⟩ (fun i Δ' hi hP => ?_) (fun Δ' hP => ?_)) (fun Δ' hF => ?_)
  · obtain ⟨s7, s9, rfl, hj⟩ := hP
    refine ⟨_, _, gj_name, ?_⟩
    have hiN : i < (4 * tw * th).toNat := by omega
    refine sj_if (et_test (ev_eqD (d := datP (psF tw th b (st + (i : Int) - b.m).toNat)) (d' := datP (psF tw th c (st + (i : Int) - c.m).toNat))
      (ev_pos (n := (4 * tw * th + 10 + 1).toNat) (ev_var rfl) (ev_sub (v rfl) (ev_ixT (eB rfl) ev_int rfl)) (by omega) (by omega)) (ev_pos (n := (4 * tw * th + 10 + 1).toNat) (ev_var rfl) (ev_sub (v rfl) (ev_ixT (eC rfl) ev_int rfl)) (by omega) (by omega)) (shaped_datP _) (shaped_datP _))) (fun hb => ?_) (fun hb => ?_)
    · rw [eqv_datP] at hb
      refine sj_retD (v rfl) rfl ?_
      rw [firstK_some (k := i) hb hiN hj]
      rfl
    · rw [eqv_datP] at hb
      refine sj_next ⟨_, _, rfl, fun j hj2 => ?_⟩
      rcases Nat.lt_or_eq_of_le (Nat.le_of_lt_succ hj2) with e | e
      · exact hj j e
      · rw [e]
        exact hb
  · obtain ⟨s7, s9, rfl, hj⟩ := hP
    exact firstK_none (fun j h => hj j (by omega))
  · rw [hF]
    exact sj_retD ev_non rfl rfl
structure MetOk (y : MetA) : Prop where
  sz : LSz y.w y.h
  m0 : 0 ≤ y.m
  m9 : y.m ≤ 9
  c0 : 0 ≤ y.c.m
  c9 : y.c.m ≤ 9
def argsMt (K : PySem.W.Frag) (y : MetA) : List RR := [Dat K (.int y.w), Dat K (.int y.h), Dat K (datP y.p), Dat K (.int y.m), Dat K (ballD y.c)]
def sp__law_met (K : PySem.W.Frag) : Sp := spOf (argsMt K) MetOk (fun y => Dat K (.list ((sortM (dirs.filterMap (metOne y))).map minD)))
theorem ok__law_met (T : TX K mg) : FnOk P w K mg base CX0 3 T.f__law_met T.d__law_met p__law_met (sp__law_met K) := by
  refine fn_ok T.F__law_met sc__law_met (fun _ => rfl) fun cdv A outer s H E hr => ⟨_, (pss_cons (ps_set (i := 5) sc__law_met.nd rfl (Or.inl rfl) (pe_lst pa_nil))
(pss_cons (ps_for PassesOwn.never rfl (kpi_list K rfl (pe_call0 (ok__law_directions T) (hr.mono (by decide)) (by rfl) T.g__law_directions T.F__law_directions.kp T.b__law_directions .nil pass0)) (kpg_tup (n := 2) K rfl rfl (pgs_cons (pg_name (i := 6) sc__law_met.nd rfl (Or.inl rfl)) (pgs_cons (pg_name (i := 7) sc__law_met.nd rfl (Or.inl rfl)) pgs_nil)))
(pss_cons (ps_set (i := 8) sc__law_met.nd rfl (Or.inl rfl) (pe_call (ok__law_first_meeting T) (hr.mono (by decide)) (by rfl) T.g__law_first_meeting T.F__law_first_meeting.kp T.b__law_first_meeting .nil pass0 (pa_cons (pv 0) (pa_cons (pv 1) (pa_cons (pe_tup (pa_cons pe_str (pa_cons (pe_ix (kix_tup K) (pv 2) pe_int (fun _ _ => rfl)) (pa_cons (pe_ix (kix_tup K) (pv 2) pe_int (fun _ _ => rfl)) (pa_cons (pv 6) (pa_cons (pv 7) (pa_cons (pv 3) pa_nil))))))) (pa_cons (pv 4) pa_nil))))))
(pss_one (ps_if (pt_cmpR op_notN (pv 8) pe_non (nomark _))
(pss_one (kps_app K rfl (pv 5) (pa_cons (pe_tup (pa_cons (pv 8) (pa_cons (pe_tup (pa_cons (pv 6) (pa_cons (pv 7) pa_nil))) pa_nil))) pa_nil)))
pss_nil))))
(pss_one (ps_ret (pe_callB (id := "sorted") (kc_sorted K rfl hr.units) (by rfl) T.z_sorted (by decide +kernel) (pa_cons (pv 5) pa_nil)))))), fun y hy => ?_⟩
  obtain ⟨sz, m0, m9, c0, c9⟩ := hy
  have v {Δ : List Slot} {i : Nat} {z : Int} (h : Δ[i]? = some (.val (Dat K (.int z)))) : EvR (tVar i) Δ (Dat K (.int z)) := ev_var h
  have eP : ∀ {Δ : List Slot}, Δ[2]? = some (.val (Dat K (datP y.p))) → EvR (tVar 2) Δ (Dat K (.tuple [.int y.p.1, .int y.p.2])) := fun h => ev_var h
  refine q_new (K := K) ?_
  refine sj_seq (M := fun Δ' => ∃ (s6 s7 s8 : Slot), Δ' = [.val (Dat K (.int y.w)), .val (Dat K (.int y.h)), .val (Dat K (datP y.p)), .val (Dat K (.int y.m)), .val (Dat K (ballD y.c)), .opn (OLst K ((dirs.filterMap (metOne y)).map minD)), s6, s7, s8])
    (sj_forL (ds := dirs.map datP) (ev_call () ea_nil trivial) (fun i Δ' => ∃ (s6 s7 s8 : Slot), Δ' = [.val (Dat K (.int y.w)), .val (Dat K (.int y.h)), .val (Dat K (datP y.p)), .val (Dat K (.int y.m)), .val (Dat K (ballD y.c)), .opn (OLst K (((dirs.take i).filterMap (metOne y)).map minD)), s6, s7, s8])
      ⟨_, _, _, rfl⟩ (fun i d Δ' hd hP => ?_) (fun Δ' hP => ?_)) ?_
  · obtain ⟨s6, s7, s8, rfl⟩ := hP
    obtain ⟨d, hp, rfl⟩ := map_get hd
    have hl1 := fm_len (metOne y) dirs i
    have z1 : (((dirs.take i).filterMap (metOne y)).map minD).length < sizeLine := by
      rw [List.length_map]
      exact Nat.lt_of_le_of_lt hl1 (by decide)
    refine ⟨_, _, gj_tup (ds := [.int d.1, .int d.2]) rfl (gjs_cons gj_name (gjs_cons gj_name gjs_nil)), ?_⟩
    refine q_asg (R := Dat K (optI (lawMeet y.w y.h (blueB y.p y.m d) y.c))) (ev_call (⟨y.w, y.h, blueB y.p y.m d, y.c⟩ : LMtA) (ea_cons (v rfl) (ea_cons (v rfl) (ea_cons (ev_tup (ds := [.str "blue", .int y.p.1, .int y.p.2, .int d.1, .int d.2, .int y.m]) (ea_cons ev_str (ea_cons (ev_ixT (eP rfl) ev_int rfl) (ea_cons (ev_ixT (eP rfl) ev_int rfl) (ea_cons (v rfl) (ea_cons (v rfl) (ea_cons (v rfl) ea_nil)))))) (by show 6 ≤ sizeLine; decide)) (ea_cons (ev_var rfl) ea_nil)))) ⟨sz, m0, m9, c0, c9⟩) ?_
    dsimp only
    rw [fm_take (metOne y) dirs i d hp]
    have e1 : metOne y d = match lawMeet y.w y.h (blueB y.p y.m d) y.c with
      | none => none
      | some t => some (t, d) := rfl
    rw [e1]
    generalize lawMeet y.w y.h (blueB y.p y.m d) y.c = f
    match f with
    | none =>
      refine sj_ifF (et_test (ev_notN (K := K) (d := .none) (ev_var rfl) ev_non)) rfl (sj_next ?_)
      dsimp only
      rw [Option.toList_none, List.append_nil]
      exact ⟨_, _, _, rfl⟩
    | some t =>
      refine sj_ifT (et_test (ev_notN (K := K) (d := .int t) (ev_var rfl) ev_non)) rfl ?_
      refine sj_app (d := minD (t, d)) rfl (ev_tup (ds := [.int t, datP d]) (ea_cons (v rfl) (ea_cons (ev_pr (v rfl) (v rfl)) ea_nil)) (by show 2 ≤ sizeLine; decide)) z1 ?_
      dsimp only
      rw [Option.toList_some, List.map_append]
      exact ⟨_, _, _, rfl⟩
  · obtain ⟨s6, s7, s8, rfl⟩ := hP
    rw [List.length_map, List.take_length]
    exact ⟨_, _, _, rfl⟩
  · rintro Δ' ⟨s6, s7, s8, rfl⟩
    refine sj_frz (i := 5) rfl ?_
    exact sj_retD (ev_cb (ea_cons (ev_var rfl) ea_nil) cb_sortM) rfl rfl
end CU
/-! M4: the plain law. -/
namespace CU
open PySem PySem.Spec PyProof.Rows L2 DL
/-! ### the walk of one part -/
structure ItInv (w x d : Int) (k : Nat) (s : Int × Int) : Prop where
  lo : 0 ≤ s.1
  hi : s.1 ≤ w
  is : is1 s.2
  or : (s.2 = d ∧ 2 * w ∣ s.1 - (x + d * (k : Int))) ∨ (s.2 = -d ∧ 2 * w ∣ s.1 + (x + d * (k : Int)))
theorem is1_neg {d : Int} (h : is1 d) : is1 (-d) := by
  rcases h with rfl | rfl | rfl
  · exact Or.inr (Or.inr rfl)
  · exact Or.inr (Or.inl rfl)
  · exact Or.inl rfl
theorem dvd_turn {m a b : Int} (h : m ∣ a - b) (h2 : m ∣ 2 * a) : m ∣ a + b := by
  have := Int.dvd_sub h2 h
  have e : 2 * a - (a - b) = a + b := by omega
  rwa [e] at this
theorem dvd_turn2 {m a b : Int} (h : m ∣ a + b) (h2 : m ∣ 2 * a) : m ∣ a - b := by
  have := Int.dvd_sub h2 h
  have e : 2 * a - (a + b) = a - b := by omega
  rwa [e] at this
theorem it_inv {w x d : Int} (hw : 1 ≤ w) (h0 : 0 ≤ x) (h1 : x ≤ w) (hd : is1 d) : ∀ k : Nat, ItInv w x d k (itS w x d k)
  | 0 => ⟨h0, h1, hd, Or.inl ⟨rfl, by
      show 2 * w ∣ x - (x + d * ((0 : Nat) : Int))
      have e : x - (x + d * ((0 : Nat) : Int)) = 0 := by simp
      rw [e]
      exact Int.dvd_zero _⟩⟩
  | k + 1 => by
    have ih := it_inv hw h0 h1 hd k
    have es : itS w x d (k + 1) = stp w (itS w x d k) := rfl
    rw [es]
    have ek : d * ((k + 1 : Nat) : Int) = d * (k : Int) + d := by
      rw [Int.natCast_add, Int.mul_add]
      simp
    generalize itS w x d k = s at ih ⊢
    obtain ⟨p, v⟩ := s
    obtain ⟨lo, hi, is, hor⟩ := ih
    simp only at lo hi is hor
    have hv : v = -1 ∨ v = 0 ∨ v = 1 := is
    show ItInv w x d (k + 1) (p + flip w p v, flip w p v)
    unfold flip
    by_cases hf : p + v < 0 ∨ p + v > w
    · rw [if_pos hf]
      have h2 : 2 * w ∣ 2 * p := by
        rcases hf with z | z
        · have : p = 0 := by omega
          rw [this]
          exact Int.dvd_zero _
        · have : p = w := by omega
          rw [this]
          exact Int.dvd_refl _
      refine ⟨by show 0 ≤ p + -v; omega, by show p + -v ≤ w; omega, is1_neg is, ?_⟩
      show (-v = d ∧ 2 * w ∣ p + -v - (x + d * ((k + 1 : Nat) : Int))) ∨ (-v = -d ∧ 2 * w ∣ p + -v + (x + d * ((k + 1 : Nat) : Int)))
      rw [ek]
      rcases hor with ⟨e, h⟩ | ⟨e, h⟩
      · refine Or.inr ⟨by omega, ?_⟩
        have := dvd_turn h h2
        have e2 : p + -v + (x + (d * (k : Int) + d)) = p + (x + d * (k : Int)) := by omega
        rwa [e2]
      · refine Or.inl ⟨by omega, ?_⟩
        have := dvd_turn2 h h2
        have e2 : p + -v - (x + (d * (k : Int) + d)) = p - (x + d * (k : Int)) := by omega
        rwa [e2]
    · rw [if_neg hf]
      refine ⟨by show 0 ≤ p + v; omega, by show p + v ≤ w; omega, is, ?_⟩
      show (v = d ∧ 2 * w ∣ p + v - (x + d * ((k + 1 : Nat) : Int))) ∨ (v = -d ∧ 2 * w ∣ p + v + (x + d * ((k + 1 : Nat) : Int)))
      rw [ek]
      rcases hor with ⟨e, h⟩ | ⟨e, h⟩
      · refine Or.inl ⟨e, ?_⟩
        have e2 : p + v - (x + (d * (k : Int) + d)) = p - (x + d * (k : Int)) := by omega
        rwa [e2]
      · refine Or.inr ⟨e, ?_⟩
        have e2 : p + v + (x + (d * (k : Int) + d)) = p + (x + d * (k : Int)) := by omega
        rwa [e2]
/-- u stands at g -/
def At (w u g : Int) : Prop := 2 * w ∣ g - u ∨ 2 * w ∣ g + u
theorem it_at {w x d : Int} (hw : 1 ≤ w) (h0 : 0 ≤ x) (h1 : x ≤ w) (hd : is1 d) (k : Nat) : At w (x + d * (k : Int)) (itS w x d k).1 := by
  rcases (it_inv hw h0 h1 hd k).or with ⟨_, h⟩ | ⟨_, h⟩
  · exact Or.inl h
  · exact Or.inr h
theorem mt_at {w u g v : Int} (h : At w v g) : Mt w u g ↔ Mt w u v := by
  unfold Mt
  rcases h with h | h
  · constructor
    · rintro (z | z)
      · have := Int.dvd_add z h
        have e : u - g + (g - v) = u - v := by omega
        rw [e] at this
        exact Or.inl this
      · have := Int.dvd_sub z h
        have e : u + g - (g - v) = u + v := by omega
        rw [e] at this
        exact Or.inr this
    · rintro (z | z)
      · have := Int.dvd_sub z h
        have e : u - v - (g - v) = u - g := by omega
        rw [e] at this
        exact Or.inl this
      · have := Int.dvd_add z h
        have e : u + v + (g - v) = u + g := by omega
        rw [e] at this
        exact Or.inr this
  · constructor
    · rintro (z | z)
      · have := Int.dvd_add z h
        have e : u - g + (g + v) = u + v := by omega
        rw [e] at this
        exact Or.inr this
      · have := Int.dvd_sub z h
        have e : u + g - (g + v) = u - v := by omega
        rw [e] at this
        exact Or.inl this
    · rintro (z | z)
      · have := Int.dvd_add z h
        have e : u - v + (g + v) = u + g := by omega
        rw [e] at this
        exact Or.inr this
      · have := Int.dvd_sub z h
        have e : u + v - (g + v) = u - g := by omega
        rw [e] at this
        exact Or.inl this
theorem mt_symm {w u v : Int} : Mt w u v ↔ Mt w v u := by
  have key : ∀ a b : Int, Mt w a b → Mt w b a := by
    rintro a b (z | z)
    · have := Int.dvd_neg.mpr z
      have e : -(a - b) = b - a := by omega
      rw [e] at this
      exact Or.inl this
    · have e : a + b = b + a := by omega
      rw [e] at z
      exact Or.inr z
  exact ⟨key u v, key v u⟩
theorem mt_small {w a b : Int} (hw : 1 ≤ w) (a0 : 0 ≤ a) (a1 : a ≤ w) (b0 : 0 ≤ b) (b1 : b ≤ w) : Mt w a b ↔ a = b := by
  constructor
  · rintro (z | z)
    · have := small_dvd z (by omega) (by omega)
      omega
    · rcases Int.lt_or_le (a + b) (2 * w) with y | y
      · have := small_dvd z y (by omega)
        omega
      · omega
  · rintro rfl
    refine Or.inl ?_
    have e : a - a = 0 := by omega
    rw [e]
    exact Int.dvd_zero _
theorem pos_iff {w x d g : Int} (hw : 1 ≤ w) (h0 : 0 ≤ x) (h1 : x ≤ w) (hd : is1 d) (g0 : 0 ≤ g) (g1 : g ≤ w) (k : Nat) : (itS w x d k).1 = g ↔ Mt w (x + d * (k : Int)) g := by
  have I := it_inv hw h0 h1 hd k
  rw [mt_symm, ← mt_at (it_at hw h0 h1 hd k), mt_small hw g0 g1 I.lo I.hi]
  exact ⟨fun h => h.symm, fun h => h.symm⟩
theorem pos_iff2 {w x d x' d' : Int} (hw : 1 ≤ w) (h0 : 0 ≤ x) (h1 : x ≤ w) (hd : is1 d) (h0' : 0 ≤ x') (h1' : x' ≤ w) (hd' : is1 d') (j k : Nat) : (itS w x d j).1 = (itS w x' d' k).1 ↔ Mt w (x + d * (j : Int)) (x' + d' * (k : Int)) := by
  have I := it_inv hw h0' h1' hd' k
  rw [pos_iff hw h0 h1 hd I.lo I.hi, mt_at (it_at hw h0' h1' hd' k)]
/-! ### a ball of the small table -/
structure SmOk (w h : Int) (b : Bal) : Prop where
  w1 : 1 ≤ w
  h1 : 1 ≤ h
  on : onT w h (b.x, b.y) = true
  hx : is1 b.dx
  hy : is1 b.dy
theorem ps_iff {w h : Int} {b : Bal} {p : Pt} (s : SmOk w h b) (hp : onT w h p = true) (k : Nat) : psF w h b k = p ↔ PtPr w h b p (b.m + (k : Int)) := by
  obtain ⟨⟨a0, a1⟩, c0, c1⟩ := onT_iff.mp s.on
  obtain ⟨⟨p0, p1⟩, q0, q1⟩ := onT_iff.mp hp
  simp only at a0 a1 c0 c1
  obtain ⟨px, py⟩ := p
  simp only at p0 p1 q0 q1
  unfold psF PtPr
  have e : b.m + (k : Int) - b.m = (k : Int) := by omega
  rw [e, Prod.ext_iff, pos_iff s.w1 a0 a1 s.hx p0 p1, pos_iff s.h1 c0 c1 s.hy q0 q1]
theorem ps_iff2 {w h : Int} {b c : Bal} (s : SmOk w h b) (s' : SmOk w h c) (j k : Nat) (e : b.m + (j : Int) = c.m + (k : Int)) : psF w h b j = psF w h c k ↔ MtPr w h b c (b.m + (j : Int)) := by
  obtain ⟨⟨a0, a1⟩, c0, c1⟩ := onT_iff.mp s.on
  obtain ⟨⟨a0', a1'⟩, c0', c1'⟩ := onT_iff.mp s'.on
  simp only at a0 a1 c0 c1 a0' a1' c0' c1'
  unfold psF MtPr
  have e1 : b.m + (j : Int) - b.m = (j : Int) := by omega
  have e2 : b.m + (j : Int) - c.m = (k : Int) := by omega
  rw [e1, e2, Prod.ext_iff, pos_iff2 s.w1 a0 a1 s.hx a0' a1' s'.hx, pos_iff2 s.h1 c0 c1 s.hy c0' c1' s'.hy]
/-! ### from minute to minute -/
theorem mt_per {w u v a b : Int} (ha : 2 * w ∣ a) (hb : 2 * w ∣ b) : Mt w (u + a) (v + b) ↔ Mt w u v := by
  unfold Mt
  constructor
  · rintro (z | z)
    · have := Int.dvd_sub z (Int.dvd_sub ha hb)
      have e : u + a - (v + b) - (a - b) = u - v := by omega
      rw [e] at this
      exact Or.inl this
    · have := Int.dvd_sub z (Int.dvd_add ha hb)
      have e : u + a + (v + b) - (a + b) = u + v := by omega
      rw [e] at this
      exact Or.inr this
  · rintro (z | z)
    · have := Int.dvd_add z (Int.dvd_sub ha hb)
      have e : u - v + (a - b) = u + a - (v + b) := by omega
      rw [e] at this
      exact Or.inl this
    · have := Int.dvd_add z (Int.dvd_add ha hb)
      have e : u + v + (a + b) = u + a + (v + b) := by omega
      rw [e] at this
      exact Or.inr this
theorem per_x (w h d : Int) : 2 * w ∣ d * (2 * w * h) := ⟨d * h, by rw [← Int.mul_assoc, Int.mul_comm d (2 * w), Int.mul_assoc]⟩
theorem per_y (w h d : Int) : 2 * h ∣ d * (2 * w * h) := ⟨d * w, by
  have e : 2 * w * h = 2 * h * w := by rw [Int.mul_assoc, Int.mul_comm w h, ← Int.mul_assoc]
  rw [e, ← Int.mul_assoc, Int.mul_comm d (2 * h), Int.mul_assoc]⟩
theorem shift_eq (x d t m n : Int) : x + d * (t + n - m) = x + d * (t - m) + d * n := by
  have e : t + n - m = (t - m) + n := by omega
  rw [e, Int.mul_add]
  omega
theorem pt_per {w h : Int} {b : Bal} {p : Pt} (t : Int) (z : PtPr w h b p (t + 2 * w * h)) : PtPr w h b p t := by
  obtain ⟨z1, z2⟩ := z
  rw [shift_eq] at z1 z2
  have e1 : p.1 = p.1 + 0 := by omega
  have e2 : p.2 = p.2 + 0 := by omega
  rw [e1] at z1
  rw [e2] at z2
  exact ⟨(mt_per (per_x w h b.dx) (Int.dvd_zero _)).mp z1, (mt_per (per_y w h b.dy) (Int.dvd_zero _)).mp z2⟩
theorem mt_per2 {w h : Int} {b c : Bal} (t : Int) (z : MtPr w h b c (t + 2 * w * h)) : MtPr w h b c t := by
  obtain ⟨z1, z2⟩ := z
  rw [shift_eq, shift_eq] at z1 z2
  exact ⟨(mt_per (per_x w h b.dx) (per_x w h c.dx)).mp z1, (mt_per (per_y w h b.dy) (per_y w h c.dy)).mp z2⟩
theorem nxt_cases (Pr : Int → Prop) (lo : Int) : (nxt Pr lo = none ∧ ∀ t, lo ≤ t → ¬ Pr t) ∨ ∃ t, nxt Pr lo = some t ∧ lo ≤ t ∧ Pr t ∧ ∀ u, lo ≤ u → Pr u → t ≤ u := nxt_spec Pr lo
theorem nxt_near {Pr : Int → Prop} {lo per t : Int} (hp : 0 < per) (hper : ∀ t, Pr (t + per) → Pr t) (e : nxt Pr lo = some t) : t < lo + per := by
  rcases nxt_cases Pr lo with ⟨h, _⟩ | ⟨u, h1, h2, h3, h4⟩
  · rw [h] at e
    cases e
  · rw [h1] at e
    cases Option.some.inj e
    rcases Int.lt_or_le t (lo + per) with z | z
    · exact z
    · have := h4 (t - per) (by omega) (hper _ (by rw [show t - per + per = t by omega]; exact h3))
      omega
theorem first_nxt {Pr : Int → Prop} {lo per : Int} {n : Nat} {p : Nat → Bool} (hp : ∀ i, i < n → (p i = true ↔ Pr (lo + (i : Int)))) (h0 : 0 < per) (hper : ∀ t, Pr (t + per) → Pr t) (hn : per ≤ (n : Int)) : (firstK n p).map (fun i : Nat => lo + (i : Int)) = nxt Pr lo := by
  rcases firstK_inv (n := n) (p := p) with ⟨h1, h2⟩ | ⟨k, h1, h2, h3, h4⟩
  · rw [h1]
    rcases nxt_cases Pr lo with ⟨g, _⟩ | ⟨t, g1, g2, g3, g4⟩
    · rw [g]
      rfl
    · exfalso
      have := nxt_near h0 hper g1
      have hj : (t - lo).toNat < n := by omega
      have e : lo + (((t - lo).toNat : Nat) : Int) = t := by omega
      have := (hp _ hj).mpr (by rw [e]; exact g3)
      rw [h2 _ hj] at this
      cases this
  · rw [h1]
    refine (nxt_eq (Or.inr ⟨lo + (k : Int), rfl, by omega, (hp k h3).mp h2, fun u hu hz => ?_⟩)).symm
    rcases Int.lt_or_le u (lo + (k : Int)) with z | z
    · exfalso
      have hj : (u - lo).toNat < k := by omega
      have e : lo + (((u - lo).toNat : Nat) : Int) = u := by omega
      have := (hp (u - lo).toNat (by omega)).mpr (by rw [e]; exact hz)
      rw [h4 _ hj] at this
      cases this
    · exact z
theorem nxt_scale {Big Sml : Int → Prop} {F LO lo : Int} (hF : 0 < F) (h : ∀ T, Big T ↔ ∃ t, T = F * t ∧ Sml t) (hlo : ∀ t, LO ≤ F * t ↔ lo ≤ t) : nxt Big LO = (nxt Sml lo).map (F * ·) := by
  rcases nxt_cases Sml lo with ⟨g, g2⟩ | ⟨t, g1, g2, g3, g4⟩
  · rw [g]
    refine nxt_eq (Or.inl ⟨rfl, fun T hT hB => ?_⟩)
    obtain ⟨t, rfl, ht⟩ := (h T).mp hB
    exact g2 t ((hlo t).mp hT) ht
  · rw [g1]
    refine nxt_eq (Or.inr ⟨F * t, rfl, (hlo t).mpr g2, (h _).mpr ⟨t, rfl, g3⟩, fun u hu hB => ?_⟩)
    obtain ⟨s, rfl, hs⟩ := (h u).mp hB
    exact Int.mul_le_mul_of_nonneg_left (g4 s ((hlo s).mp hu) hs) (by omega)
theorem le_scale {F : Int} (hF : 0 < F) (a b : Int) : F * a ≤ F * b ↔ a ≤ b := ⟨fun h => Int.le_of_mul_le_mul_left h hF, fun h => Int.mul_le_mul_of_nonneg_left h (by omega)⟩
theorem lt_scale {F : Int} (hF : 0 < F) (a b : Int) : F * a < F * b ↔ a < b := ⟨fun h => Int.lt_of_mul_lt_mul_left h (by omega), fun h => Int.mul_lt_mul_of_pos_left h hF⟩
theorem eq_scale {F : Int} (hF : 0 < F) (a b : Int) : F * a = F * b ↔ a = b := ⟨fun h => Int.eq_of_mul_eq_mul_left (by omega) h, fun h => by rw [h]⟩
theorem succ_scale {F : Int} (hF : 0 < F) (a b : Int) : F * a + 1 ≤ F * b ↔ a + 1 ≤ b := lt_scale hF a b
theorem maxI_le (a b t : Int) : maxI a b ≤ t ↔ a ≤ t ∧ b ≤ t := by
  unfold maxI
  split <;> omega
theorem maxI_scale {F : Int} (hF : 0 < F) (a b : Int) : maxI (F * a) (F * b) = F * maxI a b := by
  unfold maxI
  by_cases h : b > a
  · rw [if_pos h, if_pos ((lt_scale hF a b).mpr h)]
  · rw [if_neg h, if_neg (fun z => h ((lt_scale hF a b).mp z))]
/-! ### the great table -/
theorem dvd_scale {F m a : Int} (hF : 0 < F) : F * m ∣ F * a ↔ m ∣ a := by
  constructor
  · rintro ⟨k, hk⟩
    rw [Int.mul_assoc] at hk
    exact ⟨k, Int.eq_of_mul_eq_mul_left (by omega) hk⟩
  · exact fun h => Int.mul_dvd_mul (Int.dvd_refl F) h
theorem mt_scale {F w u v : Int} (hF : 0 < F) : Mt (F * w) (F * u) (F * v) ↔ Mt w u v := by
  unfold Mt
  have e : 2 * (F * w) = F * (2 * w) := Int.mul_left_comm 2 F w
  rw [e, ← Int.mul_sub, ← Int.mul_add, dvd_scale hF, dvd_scale hF]
structure Sc (F : Int) (b b' : Bal) : Prop where
  x : b'.x = F * b.x
  y : b'.y = F * b.y
  dx : b'.dx = b.dx
  dy : b'.dy = b.dy
  m : b'.m = F * b.m
theorem at_scale (F x d t m : Int) : F * x + d * (F * t - F * m) = F * (x + d * (t - m)) := by
  rw [Int.mul_add, ← Int.mul_sub, Int.mul_left_comm]
theorem mt_div {F w x d T m g : Int} (hd : d = -1 ∨ d = 1) (h : Mt (F * w) (F * x + d * (T - F * m)) (F * g)) : F ∣ T := by
  have e0 : ∀ z : Int, 2 * (F * w) ∣ z → F ∣ z := fun z h => Int.dvd_trans ⟨2 * w, Int.mul_left_comm 2 F w⟩ h
  have hm : F ∣ F * m := ⟨m, rfl⟩
  have hx : F ∣ F * x := ⟨x, rfl⟩
  have hg : F ∣ F * g := ⟨g, rfl⟩
  rcases h with h | h
  · have h1 := Int.dvd_sub (Int.dvd_add (e0 _ h) hg) hx
    rcases hd with rfl | rfl
    · have h2 := Int.dvd_sub hm h1
      have e : F * m - (F * x + -1 * (T - F * m) - F * g + F * g - F * x) = T := by omega
      rwa [e] at h2
    · have h2 := Int.dvd_add h1 hm
      have e : F * x + 1 * (T - F * m) - F * g + F * g - F * x + F * m = T := by omega
      rwa [e] at h2
  · have h1 := Int.dvd_sub (Int.dvd_sub (e0 _ h) hg) hx
    rcases hd with rfl | rfl
    · have h2 := Int.dvd_sub hm h1
      have e : F * m - (F * x + -1 * (T - F * m) + F * g - F * g - F * x) = T := by omega
      rwa [e] at h2
    · have h2 := Int.dvd_add h1 hm
      have e : F * x + 1 * (T - F * m) + F * g - F * g - F * x + F * m = T := by omega
      rwa [e] at h2
theorem is1_ne {d : Int} (h : is1 d) (h0 : d ≠ 0) : d = -1 ∨ d = 1 := by
  rcases h with e | e | e
  · exact Or.inl e
  · exact absurd e h0
  · exact Or.inr e
theorem pt_scale {F w h : Int} {b b' : Bal} {p : Pt} (hF : 0 < F) (s : Sc F b b') (hx : is1 b.dx) (hy : is1 b.dy) (nz : (b.dx, b.dy) ≠ (0, 0)) (T : Int) : PtPr (F * w) (F * h) b' (mulP F p) T ↔ ∃ t, T = F * t ∧ PtPr w h b p t := by
  unfold PtPr
  rw [s.x, s.y, s.dx, s.dy, s.m]
  show Mt (F * w) (F * b.x + b.dx * (T - F * b.m)) (F * p.1) ∧ Mt (F * h) (F * b.y + b.dy * (T - F * b.m)) (F * p.2) ↔ _
  constructor
  · rintro ⟨z1, z2⟩
    have hT : F ∣ T := by
      by_cases h0 : b.dx = 0
      · by_cases h1 : b.dy = 0
        · exact absurd (by rw [h0, h1]) nz
        · exact mt_div (is1_ne hy h1) z2
      · exact mt_div (is1_ne hx h0) z1
    obtain ⟨t, rfl⟩ := hT
    rw [at_scale, mt_scale hF] at z1 z2
    exact ⟨t, rfl, z1, z2⟩
  · rintro ⟨t, rfl, z1, z2⟩
    rw [at_scale, at_scale, mt_scale hF, mt_scale hF]
    exact ⟨z1, z2⟩
/-! ### falls -/
def scQ (F : Int) (q : Int × Pt) : Int × Pt := (F * q.1, mulP F q.2)
structure ScB (F w h : Int) (b b' : Bal) : Prop where
  F0 : 0 < F
  s : Sc F b b'
  hx : is1 b.dx
  hy : is1 b.dy
  nz : (b.dx, b.dy) ≠ (0, 0)
theorem fallStep_scale {F w h : Int} {b b' : Bal} (z : ScB F w h b b') (f : Option (Int × Pt)) (p : Pt) : fallStep (F * w) (F * h) b' (f.map (scQ F)) (mulP F p) = (fallStep w h b f p).map (scQ F) := by
  unfold fallStep
  have e : nxt (PtPr (F * w) (F * h) b' (mulP F p)) b'.m = (nxt (PtPr w h b p) b.m).map (F * ·) := nxt_scale z.F0 (pt_scale z.F0 z.s z.hx z.hy z.nz) (fun t => by rw [z.s.m]; exact le_scale z.F0 _ _)
  rw [e]
  cases nxt (PtPr w h b p) b.m with
  | none => rfl
  | some t =>
    cases f with
    | none => rfl
    | some q =>
      obtain ⟨t', q⟩ := q
      show (if F * t < F * t' then some (F * t, mulP F p) else some (F * t', mulP F q)) = Option.map (scQ F) (if t < t' then some (t, p) else some (t', q))
      by_cases h : t < t'
      · rw [if_pos h, if_pos ((lt_scale z.F0 _ _).mpr h)]
        rfl
      · rw [if_neg h, if_neg (fun y => h ((lt_scale z.F0 _ _).mp y))]
        rfl
theorem fall_scale {F w h : Int} {b b' : Bal} (z : ScB F w h b b') : ∀ (ps : List Pt) (f : Option (Int × Pt)), (ps.map (mulP F)).foldl (fallStep (F * w) (F * h) b') (f.map (scQ F)) = (ps.foldl (fallStep w h b) f).map (scQ F)
  | [], f => rfl
  | p :: ps, f => by
    rw [List.map_cons, List.foldl_cons, List.foldl_cons, fallStep_scale z, fall_scale z ps]
structure FallAt (w h : Int) (b : Bal) (seen : List Pt) (t : Int) (q : Pt) : Prop where
  mem : q ∈ seen
  at_ : nxt (PtPr w h b q) b.m = some t
  le : ∀ p ∈ seen, ∀ t', nxt (PtPr w h b p) b.m = some t' → t ≤ t'
def FallInv (w h : Int) (b : Bal) (seen : List Pt) : Option (Int × Pt) → Prop
  | none => ∀ p ∈ seen, nxt (PtPr w h b p) b.m = none
  | some q => FallAt w h b seen q.1 q.2
theorem fallInv_step {w h : Int} {b : Bal} {seen : List Pt} {f : Option (Int × Pt)} (i : FallInv w h b seen f) (p : Pt) : FallInv w h b (seen ++ [p]) (fallStep w h b f p) := by
  have mm : ∀ {r : Pt}, r ∈ seen ++ [p] → r ∈ seen ∨ r = p := fun h => (List.mem_append.mp h).imp id List.mem_singleton.mp
  unfold fallStep
  cases hn : nxt (PtPr w h b p) b.m with
  | none =>
    cases f with
    | none =>
      intro r hr
      rcases mm hr with e | rfl
      · exact i r e
      · exact hn
    | some q =>
      obtain ⟨t, q⟩ := q
      exact ⟨List.mem_append_left _ i.mem, i.at_, fun r hr t' ht => by
        rcases mm hr with e | rfl
        · exact i.le r e t' ht
        · rw [hn] at ht
          cases ht⟩
  | some t =>
    cases f with
    | none =>
      exact ⟨List.mem_append_right _ List.mem_cons_self, hn, fun r hr t' ht => by
        rcases mm hr with e | rfl
        · rw [i r e] at ht
          cases ht
        · rw [hn] at ht
          cases Option.some.inj ht
          exact Int.le_refl _⟩
    | some q =>
      obtain ⟨t', q⟩ := q
      show FallInv w h b (seen ++ [p]) (if t < t' then some (t, p) else some (t', q))
      by_cases hlt : t < t'
      · rw [if_pos hlt]
        exact ⟨List.mem_append_right _ List.mem_cons_self, hn, fun r hr u hu => by
          rcases mm hr with e | rfl
          · have := i.le r e u hu
            show t ≤ u
            have : t' ≤ u := this
            omega
          · rw [hn] at hu
            cases Option.some.inj hu
            exact Int.le_refl _⟩
      · rw [if_neg hlt]
        exact ⟨List.mem_append_left _ i.mem, i.at_, fun r hr u hu => by
          rcases mm hr with e | rfl
          · exact i.le r e u hu
          · rw [hn] at hu
            cases Option.some.inj hu
            show t' ≤ t
            omega⟩
theorem fallInv_all {w h : Int} {b : Bal} : ∀ (ps seen : List Pt) (f : Option (Int × Pt)), FallInv w h b seen f → FallInv w h b (seen ++ ps) (ps.foldl (fallStep w h b) f)
  | [], seen, f, i => by
    rw [List.append_nil]
    exact i
  | p :: ps, seen, f, i => by
    have := fallInv_all ps (seen ++ [p]) _ (fallInv_step i p)
    rw [List.append_assoc] at this
    exact this
theorem fallF_inv (w h : Int) (b : Bal) (ps : List Pt) : FallInv w h b ps (fallF w h b ps) := fallInv_all ps [] none (fun p hp => by cases hp)
theorem wh_pos {w h : Int} (hw : 1 ≤ w) (hh : 1 ≤ h) : 0 < 2 * w * h ∧ 2 * w * h ≤ 4 * w * h := by
  have := Int.mul_pos (show 0 < w by omega) (show 0 < h by omega)
  rw [Int.mul_assoc, Int.mul_assoc]
  omega
theorem lawFall_nxt {w h : Int} {b : Bal} {ps : List Pt} (s : SmOk w h b) (hp : ∀ p ∈ ps, onT w h p = true) : lawFall w h ps b = nxt (fun t => ∃ p ∈ ps, PtPr w h b p t) b.m := by
  have hwh := wh_pos s.w1 s.h1
  unfold lawFall
  refine first_nxt (per := 2 * w * h) (fun i _ => ?_) hwh.1 (fun t ⟨p, h1, h2⟩ => ⟨p, h1, pt_per t h2⟩) (by omega)
  rw [decide_eq_true_iff]
  constructor
  · exact fun hm => ⟨_, hm, (ps_iff s (hp _ hm) i).mp rfl⟩
  · rintro ⟨p, h1, h2⟩
    rw [(ps_iff s (hp p h1) i).mpr h2]
    exact h1
theorem lawFall_fall {w h : Int} {b : Bal} {ps : List Pt} (s : SmOk w h b) (hp : ∀ p ∈ ps, onT w h p = true) : lawFall w h ps b = (fallF w h b ps).map (·.1) := by
  rw [lawFall_nxt s hp]
  have i := fallF_inv w h b ps
  cases hf : fallF w h b ps with
  | none =>
    rw [hf] at i
    refine nxt_eq (Or.inl ⟨rfl, fun t ht ⟨p, h1, h2⟩ => ?_⟩)
    have := i p h1
    rcases nxt_cases (PtPr w h b p) b.m with ⟨_, g⟩ | ⟨u, g, _⟩
    · exact g t ht h2
    · rw [this] at g
      cases g
  | some q =>
    rw [hf] at i
    obtain ⟨t, q⟩ := q
    have ia := i.at_
    simp only at ia
    rcases nxt_cases (PtPr w h b q) b.m with ⟨g, _⟩ | ⟨u, g1, g2, g3, g4⟩
    · rw [g] at ia
      cases ia
    · rw [g1] at ia
      cases Option.some.inj ia
      refine nxt_eq (Or.inr ⟨t, rfl, g2, ⟨q, i.mem, g3⟩, fun v hv ⟨p, h1, h2⟩ => ?_⟩)
      rcases nxt_cases (PtPr w h b p) b.m with ⟨_, k⟩ | ⟨x, k1, k2, k3, k4⟩
      · exact absurd h2 (k v hv)
      · have := i.le p h1 x k1
        have := k4 v hv h2
        simp only at *
        omega
theorem mulP_inj {F : Int} (hF : 0 < F) {p q : Pt} : mulP F p = mulP F q ↔ p = q := by
  constructor
  · intro h
    have h1 : F * p.1 = F * q.1 := congrArg Prod.fst h
    have h2 : F * p.2 = F * q.2 := congrArg Prod.snd h
    exact Prod.ext ((eq_scale hF _ _).mp h1) ((eq_scale hF _ _).mp h2)
  · exact fun h => by rw [h]
theorem lawMin_mem {w h : Int} {b : Bal} {k : Pt} {t : Int} (h0 : b.m ≤ t) : t ∈ lawMin w h b k (t - b.m + 1).toNat ↔ psF w h b (t - b.m).toNat = k := by
  unfold lawMin
  rw [List.mem_map]
  constructor
  · rintro ⟨j, hj, e⟩
    have hj2 := (List.mem_filter.mp hj).2
    have e2 : j = (t - b.m).toNat := by omega
    rw [← e2]
    exact of_decide_eq_true hj2
  · intro e
    refine ⟨(t - b.m).toNat, List.mem_filter.mpr ⟨List.mem_range.mpr (by omega), decide_eq_true e⟩, by omega⟩
def scM (F : Int) (q : Int × Pt) : Int × Pt := (F * q.1, q.2)
/-- a ball of the aims -/
structure AimOk (w h : Int) (p : Pt) (F : Int) : Prop where
  F0 : 0 < F
  w1 : 1 ≤ w
  h1 : 1 ≤ h
  on : onT w h p = true
theorem red_ok {w h F : Int} {p : Pt} (a : AimOk w h p F) {m : Int} {d : Pt} (hd : d ∈ dirs) : SmOk w h (redB p m d) := ⟨a.w1, a.h1, a.on, (dirs_ok d hd).1, (dirs_ok d hd).2.1⟩
theorem aim_sc {w h F : Int} {p : Pt} (a : AimOk w h p F) {m : Int} {d : Pt} (hd : d ∈ dirs) : ScB F w h (redB p m d) (aimB (mulP F p) (F * m) d) := ⟨a.F0, ⟨rfl, rfl, rfl, rfl, rfl⟩, (dirs_ok d hd).1, (dirs_ok d hd).2.1, (dirs_ok d hd).2.2⟩
theorem pok_eq {y : DueA} {F : Int} (a : AimOk y.w y.h y.p F) (hp : ∀ p ∈ y.ps, onT y.w y.h p = true) {d : Pt} (hd : d ∈ dirs) : pokOne ⟨F * y.w, F * y.h, y.ps.map (mulP F), mulP F y.p, F * y.m, mulP F y.k⟩ d = (dueFall y d).map (scM F) := by
  have s := red_ok (m := y.m) a hd
  have z := aim_sc (m := y.m) a hd
  have e1 : fallF (F * y.w) (F * y.h) (aimB (mulP F y.p) (F * y.m) d) (y.ps.map (mulP F)) = (fallF y.w y.h (redB y.p y.m d) y.ps).map (scQ F) := fall_scale z y.ps none
  unfold pokOne dueFall
  simp only
  rw [e1, lawFall_fall s hp]
  have i := fallF_inv y.w y.h (redB y.p y.m d) y.ps
  cases hf : fallF y.w y.h (redB y.p y.m d) y.ps with
  | none => rfl
  | some q =>
    rw [hf] at i
    obtain ⟨t, q⟩ := q
    have ia := i.at_
    simp only at ia
    have hm : (redB y.p y.m d).m = y.m := rfl
    rcases nxt_cases (PtPr y.w y.h (redB y.p y.m d) q) (redB y.p y.m d).m with ⟨g, _⟩ | ⟨u, g1, g2, g3, g4⟩
    · rw [g] at ia
      cases ia
    · rw [g1] at ia
      cases Option.some.inj ia
      have hq : psF y.w y.h (redB y.p y.m d) (t - (redB y.p y.m d).m).toNat = q := by
        refine (ps_iff s (hp q i.mem) _).mpr ?_
        have e : (redB y.p y.m d).m + (((t - (redB y.p y.m d).m).toNat : Nat) : Int) = t := by omega
        rw [e]
        exact g3
      have hk := lawMin_mem (w := y.w) (h := y.h) (k := y.k) g2
      rw [hq, hm] at hk
      show (if mulP F q = mulP F y.k then some (F * t, d) else none) = Option.map (scM F) (if t ∈ lawMin y.w y.h (redB y.p y.m d) y.k (t - y.m + 1).toNat then some (t, d) else none)
      by_cases h : q = y.k
      · rw [if_pos (hk.mpr h), if_pos ((mulP_inj a.F0).mpr h)]
        rfl
      · rw [if_neg (fun z => h (hk.mp z)), if_neg (fun z => h ((mulP_inj a.F0).mp z))]
        rfl
end CU
/-! M5: orders, meetings, sorted answers. -/
namespace CU
open PySem PySem.Spec PyProof.Rows L2 DL
/-! ### in order -/
theorem ordF_cons (w h : Int) (b : Bal) (p : Pt) (ps : List Pt) (lo : Int) : ordF w h b (p :: ps) lo = match nxt (PtPr w h b p) (maxI lo b.m) with
    | none => none
    | some t => (ordF w h b ps (t + 1)).map (t :: ·) := rfl
theorem ordF_scale {F w h : Int} {b b' : Bal} (z : ScB F w h b b') : ∀ (pts : List Pt) (LO lo : Int), (∀ t, LO ≤ F * t ↔ lo ≤ t) → ordF (F * w) (F * h) b' (pts.map (mulP F)) LO = (ordF w h b pts lo).map (List.map (F * ·))
  | [], _, _, _ => rfl
  | p :: ps, LO, lo, hl => by
    rw [List.map_cons, ordF_cons, ordF_cons]
    have e : nxt (PtPr (F * w) (F * h) b' (mulP F p)) (maxI LO b'.m) = (nxt (PtPr w h b p) (maxI lo b.m)).map (F * ·) := nxt_scale z.F0 (pt_scale z.F0 z.s z.hx z.hy z.nz) (fun t => by
      rw [z.s.m, maxI_le, maxI_le, hl, le_scale z.F0])
    rw [e]
    cases nxt (PtPr w h b p) (maxI lo b.m) with
    | none => rfl
    | some t =>
      show (ordF (F * w) (F * h) b' (ps.map (mulP F)) (F * t + 1)).map (F * t :: ·) = Option.map (List.map (F * ·)) ((ordF w h b ps (t + 1)).map (t :: ·))
      rw [ordF_scale z ps (F * t + 1) (t + 1) (fun s => succ_scale z.F0 t s)]
      cases ordF w h b ps (t + 1) <;> rfl
theorem lawOrd_cons (n : Nat) (pos : Nat → Pt) (m : Int) (p : Pt) (ps : List Pt) (fol : Nat) : lawOrd n pos m (p :: ps) fol = match firstK (n - fol) (fun i => decide (pos (fol + i) = p)) with
    | none => none
    | some i => (lawOrd n pos m ps (fol + i + 1)).map ((m + ((fol + i : Nat) : Int)) :: ·) := rfl
theorem lawOrd_ord {w h : Int} {b : Bal} (s : SmOk w h b) : ∀ (pts : List Pt), (∀ p ∈ pts, onT w h p = true) → ∀ (n fol : Nat), (fol : Int) + 2 * w * h * (pts.length : Int) ≤ (n : Int) → lawOrd n (psF w h b) b.m pts fol = ordF w h b pts (b.m + (fol : Int))
  | [], _, _, _, _ => rfl
  | p :: ps, hp, n, fol, hn => by
    have hwh := wh_pos s.w1 s.h1
    rw [ordF_cons, lawOrd_cons]
    have em : maxI (b.m + (fol : Int)) b.m = b.m + (fol : Int) := by
      unfold maxI
      split <;> omega
    have el : 2 * w * h * ((p :: ps).length : Int) = 2 * w * h * (ps.length : Int) + 2 * w * h := by
      rw [List.length_cons, Int.natCast_add, Int.mul_add]
      simp
    have h0 : 0 ≤ 2 * w * h * (ps.length : Int) := Int.mul_nonneg (by omega) (by omega)
    rw [el] at hn
    have key := first_nxt (Pr := PtPr w h b p) (lo := b.m + (fol : Int)) (per := 2 * w * h) (n := n - fol) (p := fun i => decide (psF w h b (fol + i) = p)) (fun i _ => by
      rw [decide_eq_true_iff, ps_iff s (hp p List.mem_cons_self) (fol + i)]
      have e : b.m + ((fol + i : Nat) : Int) = b.m + (fol : Int) + (i : Int) := by omega
      rw [e]) hwh.1 (fun t => pt_per t) (by omega)
    rw [em, ← key]
    have near : ∀ t, nxt (PtPr w h b p) (b.m + (fol : Int)) = some t → t < b.m + (fol : Int) + 2 * w * h := fun t e => nxt_near hwh.1 (fun t => pt_per t) e
    rw [← key] at near
    cases hk : firstK (n - fol) (fun i => decide (psF w h b (fol + i) = p)) with
    | none => rfl
    | some i =>
      rw [hk] at near
      have hi : b.m + (fol : Int) + (i : Int) < b.m + (fol : Int) + 2 * w * h := near _ rfl
      show (lawOrd n (psF w h b) b.m ps (fol + i + 1)).map ((b.m + ((fol + i : Nat) : Int)) :: ·) = (ordF w h b ps (b.m + (fol : Int) + (i : Int) + 1)).map ((b.m + (fol : Int) + (i : Int)) :: ·)
      rw [lawOrd_ord s ps (fun q hq => hp q (List.mem_cons_of_mem _ hq)) n (fol + i + 1) (by omega)]
      have e1 : b.m + ((fol + i + 1 : Nat) : Int) = b.m + (fol : Int) + (i : Int) + 1 := by omega
      have e2 : b.m + ((fol + i : Nat) : Int) = b.m + (fol : Int) + (i : Int) := by omega
      rw [e1, e2]
theorem lawIn_ord {w h : Int} {b : Bal} {pts : List Pt} (s : SmOk w h b) (hp : ∀ p ∈ pts, onT w h p = true) : lawIn w h b pts = ordF w h b pts b.m := by
  have hwh := wh_pos s.w1 s.h1
  unfold lawIn
  rw [lawOrd_ord s pts hp]
  · have e : b.m + ((0 : Nat) : Int) = b.m := by omega
    rw [e]
  · have h1 : 2 * w * h * (pts.length : Int) ≤ 4 * w * h * (pts.length : Int) := Int.mul_le_mul_of_nonneg_right hwh.2 (by omega)
    have h2 : 4 * w * h * (1 + (pts.length : Int)) = 4 * w * h + 4 * w * h * (pts.length : Int) := by
      rw [Int.mul_add, Int.mul_one]
    have h3 : 0 ≤ 4 * w * h * (pts.length : Int) := Int.mul_nonneg (by omega) (by omega)
    omega
theorem ordF_ge {w h : Int} {b : Bal} : ∀ (pts : List Pt) (lo : Int) (l : List Int), ordF w h b pts lo = some l → ∀ t ∈ l, b.m ≤ t
  | [], lo, l, e, t, ht => by
    cases Option.some.inj e
    cases ht
  | p :: ps, lo, l, e, t, ht => by
    rw [ordF_cons] at e
    rcases nxt_cases (PtPr w h b p) (maxI lo b.m) with ⟨g, _⟩ | ⟨u, g1, g2, _⟩
    · rw [g] at e
      cases e
    · rw [g1] at e
      have g3 := ((maxI_le lo b.m u).mp g2).2
      cases hr : ordF w h b ps (u + 1) with
      | none =>
        simp only [hr] at e
        cases e
      | some r =>
        simp only [hr] at e
        cases Option.some.inj e
        rcases List.mem_cons.mp ht with z | z
        · omega
        · exact ordF_ge ps (u + 1) r hr t z
theorem maxDf_scale {F m : Int} (hF : 0 < F) (l : List Int) : maxDf (F * m) (l.map (F * ·)) = F * maxDf m l := by
  cases l with
  | nil => rfl
  | cons a l =>
    show maxOf (F * a) (l.map (F * ·)) = F * maxOf a l
    induction l generalizing a with
    | nil => rfl
    | cons b l ih =>
      show (if maxOf (F * b) (l.map (F * ·)) > F * a then maxOf (F * b) (l.map (F * ·)) else F * a) = F * (if maxOf b l > a then maxOf b l else a)
      rw [ih b]
      by_cases h : maxOf b l > a
      · rw [if_pos h, if_pos ((lt_scale hF _ _).mpr h)]
      · rw [if_neg h, if_neg (fun z => h ((lt_scale hF _ _).mp z))]
theorem maxDf_app {m : Int} {l : List Int} (h : ∀ t ∈ l, m ≤ t) : maxDf 0 (l ++ [m]) = maxDf m l := by
  have h1 : IsMax (maxDf 0 (l ++ [m])) (l ++ [m]) := maxDf_is (by simp)
  cases l with
  | nil => rfl
  | cons a r =>
    have h2 : IsMax (maxDf m (a :: r)) (a :: r) := maxDf_is (by simp)
    refine h1.uniq ⟨List.mem_append_left _ h2.1, fun y hy => ?_⟩
    rcases List.mem_append.mp hy with e | e
    · exact h2.2 y e
    · rw [List.mem_singleton.mp e]
      exact h _ h2.1
theorem ora_eq {y : DueA} {F : Int} {ps : List Pt} (a : AimOk y.w y.h y.p F) (hp : ∀ p ∈ y.pts, onT y.w y.h p = true) {d : Pt} (hd : d ∈ dirs) : oraOne ⟨F * y.w, F * y.h, ps, mulP F y.p, F * y.m, y.pts.map (mulP F)⟩ d = (dueOrd y d).map (scM F) := by
  have s := red_ok (m := y.m) a hd
  have z := aim_sc (m := y.m) a hd
  have e1 : ordF (F * y.w) (F * y.h) (aimB (mulP F y.p) (F * y.m) d) (y.pts.map (mulP F)) (F * y.m) = (ordF y.w y.h (redB y.p y.m d) y.pts y.m).map (List.map (F * ·)) := ordF_scale z y.pts _ _ (fun t => le_scale a.F0 _ _)
  unfold oraOne dueOrd
  simp only
  rw [e1, lawIn_ord s hp]
  have hm : (redB y.p y.m d).m = y.m := rfl
  rw [hm]
  have ge := ordF_ge (w := y.w) (h := y.h) (b := redB y.p y.m d) y.pts y.m
  cases hf : ordF y.w y.h (redB y.p y.m d) y.pts y.m with
  | none => rfl
  | some l =>
    show some (maxDf (F * y.m) (l.map (F * ·)), d) = some (F * maxDf 0 (l ++ [y.m]), d)
    rw [maxDf_scale a.F0, maxDf_app (m := y.m) (ge l hf)]
/-! ### meetings -/
theorem odd_div {O z c T : Int} (ho : O % 2 = 1) (hc : c = -2 ∨ c = -1 ∨ c = 1 ∨ c = 2) (h : O ∣ O * z + c * T) : O ∣ T := by
  have h1 : O ∣ c * T := by
    have := Int.dvd_sub h (⟨z, rfl⟩ : O ∣ O * z)
    have e : O * z + c * T - O * z = c * T := by omega
    rwa [e] at this
  have two : O ∣ 2 * T → O ∣ T := fun h2 => by
    have h3 : O ∣ O * T := ⟨T, rfl⟩
    have h4 : O ∣ (O / 2) * (2 * T) := Int.dvd_mul_of_dvd_right h2
    have e : O * T - (O / 2) * (2 * T) = T := by
      have e1 : O = 2 * (O / 2) + 1 := by omega
      have e2 : (O / 2) * (2 * T) = 2 * (O / 2) * T := by rw [← Int.mul_assoc, Int.mul_comm (O / 2) 2]
      have e3 : O * T = (2 * (O / 2) + 1) * T := by rw [← e1]
      rw [e3, e2, Int.add_mul]
      omega
    have := Int.dvd_sub h3 h4
    rwa [e] at this
  rcases hc with rfl | rfl | rfl | rfl
  · refine two ?_
    have := Int.dvd_neg.mpr h1
    have e : -(-2 * T) = 2 * T := by omega
    rwa [e] at this
  · have := Int.dvd_neg.mpr h1
    have e : -(-1 * T) = T := by omega
    rwa [e] at this
  · rwa [Int.one_mul] at h1
  · exact two h1
theorem sub_cases {d e : Int} (hd : is1 d) (he : is1 e) : (d - e = 0 ∨ d - e = -2 ∨ d - e = -1 ∨ d - e = 1 ∨ d - e = 2) ∧ (d + e = 0 ∨ d + e = -2 ∨ d + e = -1 ∨ d + e = 1 ∨ d + e = 2) := by
  rcases hd with rfl | rfl | rfl <;> rcases he with rfl | rfl | rfl <;> decide
/-- where the great minute is no multiple, the part meets always -/
theorem part_all {O w x d m x' d' m' T : Int} (hO : 0 < O) (ho : O % 2 = 1) (hd : is1 d) (hd' : is1 d') (h : Mt (O * w) (O * x + d * (T - O * m)) (O * x' + d' * (T - O * m'))) (hT : ¬ O ∣ T) :
    ∀ t, Mt w (x + d * (t - m)) (x' + d' * (t - m')) := by
  have e0 : ∀ z : Int, 2 * (O * w) ∣ z → O ∣ z := fun z h => Int.dvd_trans ⟨2 * w, Int.mul_left_comm 2 O w⟩ h
  have eL : O * x + d * (T - O * m) - (O * x' + d' * (T - O * m')) = O * (x - x' - d * m + d' * m') + (d - d') * T := by
    rw [Int.mul_sub d, Int.mul_sub d', Int.sub_mul d d', Int.mul_add O, Int.mul_sub O, Int.mul_sub O, Int.mul_left_comm d O m, Int.mul_left_comm d' O m']
    omega
  have eR : O * x + d * (T - O * m) + (O * x' + d' * (T - O * m')) = O * (x + x' - d * m - d' * m') + (d + d') * T := by
    rw [Int.mul_sub d, Int.mul_sub d', Int.add_mul d d', Int.mul_sub O, Int.mul_sub O, Int.mul_add O, Int.mul_left_comm d O m, Int.mul_left_comm d' O m']
    omega
  have sL : ∀ t, x + d * (t - m) - (x' + d' * (t - m')) = (x - x' - d * m + d' * m') + (d - d') * t := fun t => by
    rw [Int.mul_sub d, Int.mul_sub d', Int.sub_mul d d']
    omega
  have sR : ∀ t, x + d * (t - m) + (x' + d' * (t - m')) = (x + x' - d * m - d' * m') + (d + d') * t := fun t => by
    rw [Int.mul_sub d, Int.mul_sub d', Int.add_mul d d']
    omega
  have e2 : 2 * (O * w) = O * (2 * w) := Int.mul_left_comm 2 O w
  have cs := sub_cases hd hd'
  rcases h with h | h
  · rw [eL] at h
    rcases cs.1 with c | c
    · intro t
      refine Or.inl ?_
      rw [sL, c, Int.zero_mul, Int.add_zero]
      rw [c, Int.zero_mul, Int.add_zero, e2, dvd_scale hO] at h
      exact h
    · exact absurd (odd_div ho c (e0 _ h)) hT
  · rw [eR] at h
    rcases cs.2 with c | c
    · intro t
      refine Or.inr ?_
      rw [sR, c, Int.zero_mul, Int.add_zero]
      rw [c, Int.zero_mul, Int.add_zero, e2, dvd_scale hO] at h
      exact h
    · exact absurd (odd_div ho c (e0 _ h)) hT
/-- .. and the great part meets always -/
theorem part_big {O w x d m x' d' m' T : Int} (hO : 0 < O) (ho : O % 2 = 1) (hd : is1 d) (hd' : is1 d') (h : Mt (O * w) (O * x + d * (T - O * m)) (O * x' + d' * (T - O * m'))) (hT : ¬ O ∣ T) :
    ∀ t, Mt (O * w) (O * x + d * (t - O * m)) (O * x' + d' * (t - O * m')) := by
  have e0 : ∀ z : Int, 2 * (O * w) ∣ z → O ∣ z := fun z h => Int.dvd_trans ⟨2 * w, Int.mul_left_comm 2 O w⟩ h
  have eL : ∀ T, O * x + d * (T - O * m) - (O * x' + d' * (T - O * m')) = O * (x - x' - d * m + d' * m') + (d - d') * T := fun T => by
    rw [Int.mul_sub d, Int.mul_sub d', Int.sub_mul d d', Int.mul_add O, Int.mul_sub O, Int.mul_sub O, Int.mul_left_comm d O m, Int.mul_left_comm d' O m']
    omega
  have eR : ∀ T, O * x + d * (T - O * m) + (O * x' + d' * (T - O * m')) = O * (x + x' - d * m - d' * m') + (d + d') * T := fun T => by
    rw [Int.mul_sub d, Int.mul_sub d', Int.add_mul d d', Int.mul_sub O, Int.mul_sub O, Int.mul_add O, Int.mul_left_comm d O m, Int.mul_left_comm d' O m']
    omega
  have cs := sub_cases hd hd'
  rcases h with h | h
  · rw [eL] at h
    rcases cs.1 with c | c
    · intro t
      refine Or.inl ?_
      rw [eL, c, Int.zero_mul, Int.add_zero]
      rw [c, Int.zero_mul, Int.add_zero] at h
      exact h
    · exact absurd (odd_div ho c (e0 _ h)) hT
  · rw [eR] at h
    rcases cs.2 with c | c
    · intro t
      refine Or.inr ?_
      rw [eR, c, Int.zero_mul, Int.add_zero]
      rw [c, Int.zero_mul, Int.add_zero] at h
      exact h
    · exact absurd (odd_div ho c (e0 _ h)) hT
theorem meet_scale {O w h : Int} {b b' c c' : Bal} (hO : 0 < O) (ho : O % 2 = 1) (s : Sc O b b') (s' : Sc O c c') (hx : is1 b.dx) (hy : is1 b.dy) (hx' : is1 c.dx) (hy' : is1 c.dy) (lo : Int) : nxt (MtPr (O * w) (O * h) b' c') (O * lo) = (nxt (MtPr w h b c) lo).map (O * ·) := by
  have eB : ∀ T, MtPr (O * w) (O * h) b' c' T ↔ Mt (O * w) (O * b.x + b.dx * (T - O * b.m)) (O * c.x + c.dx * (T - O * c.m)) ∧ Mt (O * h) (O * b.y + b.dy * (T - O * b.m)) (O * c.y + c.dy * (T - O * c.m)) := fun T => by
    unfold MtPr
    rw [s.x, s.y, s.dx, s.dy, s.m, s'.x, s'.y, s'.dx, s'.dy, s'.m]
  have eT : ∀ t, MtPr (O * w) (O * h) b' c' (O * t) ↔ MtPr w h b c t := fun t => by
    rw [eB, at_scale, at_scale, at_scale, at_scale, mt_scale hO, mt_scale hO]
    exact Iff.rfl
  by_cases hex : ∃ T, MtPr (O * w) (O * h) b' c' T ∧ ¬ O ∣ T
  · obtain ⟨T, hT, hn⟩ := hex
    obtain ⟨z1, z2⟩ := (eB T).mp hT
    have a1 : ∀ t, MtPr w h b c t := fun t => ⟨part_all hO ho hx hx' z1 hn t, part_all hO ho hy hy' z2 hn t⟩
    have a2 : ∀ t, MtPr (O * w) (O * h) b' c' t := fun t => (eB t).mpr ⟨part_big hO ho hx hx' z1 hn t, part_big hO ho hy hy' z2 hn t⟩
    have n1 : nxt (MtPr w h b c) lo = some lo := nxt_eq (Or.inr ⟨lo, rfl, Int.le_refl _, a1 lo, fun u hu _ => hu⟩)
    have n2 : nxt (MtPr (O * w) (O * h) b' c') (O * lo) = some (O * lo) := nxt_eq (Or.inr ⟨O * lo, rfl, Int.le_refl _, a2 _, fun u hu _ => hu⟩)
    rw [n1, n2]
    rfl
  · refine nxt_scale hO (fun T => ⟨fun hT => ?_, fun ⟨t, e, z⟩ => ?_⟩) (fun t => le_scale hO _ _)
    · by_cases hn : O ∣ T
      · obtain ⟨t, rfl⟩ := hn
        exact ⟨t, rfl, (eT t).mp hT⟩
      · exact absurd ⟨T, hT, hn⟩ hex
    · subst e
      exact (eT t).mpr z
theorem lawMeet_nxt {w h : Int} {b c : Bal} (s : SmOk w h b) (s' : SmOk w h c) : lawMeet w h b c = nxt (MtPr w h b c) (maxI b.m c.m) := by
  have hwh := wh_pos s.w1 s.h1
  unfold lawMeet
  have g := (maxI_le b.m c.m (maxI b.m c.m)).mp (Int.le_refl _)
  refine first_nxt (per := 2 * w * h) (fun i _ => ?_) hwh.1 (fun t => mt_per2 t) (by omega)
  rw [decide_eq_true_iff, ps_iff2 s s' _ _ (by omega)]
  have e : b.m + (((maxI b.m c.m + (i : Int) - b.m).toNat : Nat) : Int) = maxI b.m c.m + (i : Int) := by omega
  rw [e]
theorem mee_eq {y : MetA} {O : Int} {ps : List Pt} {c' : Bal} (a : AimOk y.w y.h y.p O) (ho : O % 2 = 1) (s' : Sc O y.c c') (hc : SmOk y.w y.h y.c) {d : Pt} (hd : d ∈ dirs) : meeOne ⟨O * y.w, O * y.h, ps, mulP O y.p, O * y.m, c'⟩ d = (metOne y d).map (scM O) := by
  have sb : SmOk y.w y.h (blueB y.p y.m d) := ⟨a.w1, a.h1, a.on, (dirs_ok d hd).1, (dirs_ok d hd).2.1⟩
  have e1 : nxt (MtPr (O * y.w) (O * y.h) (aimB (mulP O y.p) (O * y.m) d) c') (maxI (O * y.m) c'.m) = (nxt (MtPr y.w y.h (blueB y.p y.m d) y.c) (maxI y.m y.c.m)).map (O * ·) := by
    rw [s'.m, maxI_scale a.F0]
    exact meet_scale (b := blueB y.p y.m d) (b' := aimB (mulP O y.p) (O * y.m) d) a.F0 ho ⟨rfl, rfl, rfl, rfl, rfl⟩ s' sb.hx sb.hy hc.hx hc.hy _
  have e2 := lawMeet_nxt sb hc
  have hm : (blueB y.p y.m d).m = y.m := rfl
  rw [hm] at e2
  unfold meeOne metOne
  simp only
  rw [e1, e2]
  cases nxt (MtPr y.w y.h (blueB y.p y.m d) y.c) (maxI y.m y.c.m) <;> rfl
/-! ### sorted -/
theorem le_minD {F : Int} (hF : 0 < F) (p q : Int × Pt) : PySem.W.dataLe false minD (scM F p) (scM F q) = PySem.W.dataLe false minD p q := by
  have key : ∀ p q : Int × Pt, PySem.W.dataLe false minD p q = !(if PyData.eqv (.int q.1) (.int p.1) = true then (if PyData.eqv (datP q.2) (datP p.2) = true then false else PySem.W.dataLt (datP q.2) (datP p.2)) else decide (q.1 < p.1)) := fun p q => by
    rw [PySem.W.dataLe_eq]
    show (!PySem.W.dataLt (minD q) (minD p)) = _
    unfold minD
    rw [PySem.W.dataLt_pair (by simp [PySem.W.alike]) (by simp [datP, PySem.W.alike, PySem.W.alikeAll]), PySem.W.dataLt_int]
  rw [key, key]
  have e1 : PyData.eqv (.int (scM F q).1) (.int (scM F p).1) = PyData.eqv (.int q.1) (.int p.1) := by
    show (F * q.1 == F * p.1) = (q.1 == p.1)
    rw [Bool.beq_eq_decide_eq, Bool.beq_eq_decide_eq]
    exact decide_eq_decide.mpr (eq_scale hF _ _)
  have e2 : decide ((scM F q).1 < (scM F p).1) = decide (q.1 < p.1) := decide_eq_decide.mpr (lt_scale hF _ _)
  rw [e1, e2]
  rfl
theorem sort_scale {F : Int} (hF : 0 < F) (l : List (Int × Pt)) : sortM (l.map (scM F)) = (sortM l).map (scM F) := by
  unfold sortM
  exact (List.map_mergeSort fun a _ b _ => (le_minD hF a b).symm).symm
theorem fm_map {f g : Pt → Option (Int × Pt)} {F : Int} : ∀ {l : List Pt}, (∀ d ∈ l, f d = (g d).map (scM F)) → l.filterMap f = (l.filterMap g).map (scM F)
  | [], _ => rfl
  | d :: l, h => by
    have ih := fm_map (l := l) fun e he => h e (List.mem_cons_of_mem _ he)
    rw [List.filterMap_cons, List.filterMap_cons, h d List.mem_cons_self]
    cases g d with
    | none => exact ih
    | some q =>
      show scM F q :: l.filterMap f = scM F q :: (l.filterMap g).map (scM F)
      rw [ih]
end CU
/-! M6: the answers of the great table, of the small one. -/
namespace CU
open PySem PySem.Spec PyProof.Rows L2 DL
theorem told_pok {y : DueA} {F : Int} (a : AimOk y.w y.h y.p F) (hp : ∀ p ∈ y.ps, onT y.w y.h p = true) : sortM (pokL ⟨F * y.w, F * y.h, y.ps.map (mulP F), mulP F y.p, F * y.m, mulP F y.k⟩) = (sortM (dirs.filterMap (dueFall y))).map (scM F) := by
  unfold pokL
  rw [fm_map (F := F) fun d hd => pok_eq a hp hd, sort_scale a.F0]
theorem told_ora {y : DueA} {F : Int} {ps : List Pt} (a : AimOk y.w y.h y.p F) (hp : ∀ p ∈ y.pts, onT y.w y.h p = true) : sortM (oraL ⟨F * y.w, F * y.h, ps, mulP F y.p, F * y.m, y.pts.map (mulP F)⟩) = (sortM (dirs.filterMap (dueOrd y))).map (scM F) := by
  unfold oraL
  rw [fm_map (F := F) fun d hd => ora_eq a hp hd, sort_scale a.F0]
theorem told_mee {y : MetA} {O : Int} {ps : List Pt} {c' : Bal} (a : AimOk y.w y.h y.p O) (ho : O % 2 = 1) (s' : Sc O y.c c') (hc : SmOk y.w y.h y.c) : sortM (meeL ⟨O * y.w, O * y.h, ps, mulP O y.p, O * y.m, c'⟩) = (sortM (dirs.filterMap (metOne y))).map (scM O) := by
  unfold meeL
  rw [fm_map (F := O) fun d hd => mee_eq a ho s' hc hd, sort_scale a.F0]
/-! ### the small answers are small -/
theorem sortM_mem {g : Pt → Option (Int × Pt)} {q : Int × Pt} (h : q ∈ sortM (dirs.filterMap g)) : ∃ d ∈ dirs, g d = some q := List.mem_filterMap.mp ((List.mergeSort_perm _ _).mem_iff.mp h)
theorem fall_small {y : DueA} (z : LSz y.w y.h) (m0 : 0 ≤ y.m) (m1 : y.m ≤ 100) {q : Int × Pt} (h : q ∈ sortM (dirs.filterMap (dueFall y))) : 0 ≤ q.1 ∧ q.1 < 1000 := by
  obtain ⟨d, hd, e⟩ := sortM_mem h
  unfold dueFall at e
  cases hf : lawFall y.w y.h y.ps (redB y.p y.m d) with
  | none =>
    rw [hf] at e
    cases e
  | some t =>
    have n := lawFall_near z hf
    have hm : (redB y.p y.m d).m = y.m := rfl
    rw [hm] at n
    rw [hf] at e
    simp only at e
    split at e
    · cases Option.some.inj e
      show 0 ≤ t ∧ t < 1000
      omega
    · cases e
theorem lawOrd_bd {n : Nat} {pos : Nat → Pt} {m : Int} : ∀ {pts : List Pt} {fol : Nat} {l : List Int}, lawOrd n pos m pts fol = some l → ∀ t ∈ l, m ≤ t ∧ t < m + (n : Int)
  | [], fol, l, h, t, ht => by
    cases Option.some.inj h
    cases ht
  | p :: ps, fol, l, h, t, ht => by
    rw [lawOrd_cons] at h
    rcases firstK_inv (n := n - fol) (p := fun i => decide (pos (fol + i) = p)) with ⟨h1, _⟩ | ⟨i, h1, _, h2, _⟩
    · rw [h1] at h
      cases h
    · rw [h1] at h
      cases hr : lawOrd n pos m ps (fol + i + 1) with
      | none =>
        simp only [hr] at h
        cases h
      | some r =>
        simp only [hr] at h
        cases Option.some.inj h
        rcases List.mem_cons.mp ht with z | z
        · omega
        · exact lawOrd_bd hr t z
theorem ord_n {w h : Int} {n : Nat} (z : LSz w h) (hn : n ≤ 3) : (((4 * w * h * (1 + (n : Int)) + 1).toNat : Nat) : Int) ≤ 577 := by
  have hwh := z.wh
  have : 4 * w * h * (1 + (n : Int)) ≤ 144 * 4 := Int.mul_le_mul hwh.2 (by omega) (by omega) (by decide)
  omega
theorem in_small {w h : Int} {b : Bal} {pts : List Pt} {l : List Int} (z : LSz w h) (few : pts.length ≤ 3) (m0 : 0 ≤ b.m) (m1 : b.m ≤ 100) (h : lawIn w h b pts = some l) : ∀ t ∈ l, 0 ≤ t ∧ t < 1000 := fun t ht => by
  have b1 := lawOrd_bd h t ht
  have b2 := ord_n z few
  omega
theorem ord_small {y : DueA} (z : LSz y.w y.h) (few : y.pts.length ≤ 3) (m0 : 0 ≤ y.m) (m1 : y.m ≤ 100) {q : Int × Pt} (h : q ∈ sortM (dirs.filterMap (dueOrd y))) : 0 ≤ q.1 ∧ q.1 < 1000 := by
  obtain ⟨d, hd, e⟩ := sortM_mem h
  unfold dueOrd at e
  cases hf : lawIn y.w y.h (redB y.p y.m d) y.pts with
  | none =>
    rw [hf] at e
    cases e
  | some l =>
    have sm := in_small z few (show 0 ≤ (redB y.p y.m d).m from m0) (show (redB y.p y.m d).m ≤ 100 from m1) hf
    rw [hf] at e
    cases Option.some.inj e
    have hm : IsMax (maxDf 0 (l ++ [y.m])) (l ++ [y.m]) := maxDf_is (by simp)
    show 0 ≤ maxDf 0 (l ++ [y.m]) ∧ maxDf 0 (l ++ [y.m]) < 1000
    rcases List.mem_append.mp hm.1 with z | z
    · exact sm _ z
    · rw [List.mem_singleton.mp z]
      omega
theorem met_small {y : MetA} (z : LSz y.w y.h) (m0 : 0 ≤ y.m) (m1 : y.m ≤ 100) (c0 : 0 ≤ y.c.m) (c1 : y.c.m ≤ 100) {q : Int × Pt} (h : q ∈ sortM (dirs.filterMap (metOne y))) : 0 ≤ q.1 ∧ q.1 < 1000 := by
  obtain ⟨d, hd, e⟩ := sortM_mem h
  unfold metOne at e
  have hwh := z.wh
  cases hf : lawMeet y.w y.h (blueB y.p y.m d) y.c with
  | none =>
    rw [hf] at e
    cases e
  | some t =>
    rw [hf] at e
    cases Option.some.inj e
    show 0 ≤ t ∧ t < 1000
    unfold lawMeet at hf
    have hm : (blueB y.p y.m d).m = y.m := rfl
    rw [hm] at hf
    have mx : 0 ≤ maxI y.m y.c.m ∧ maxI y.m y.c.m ≤ 100 := by
      unfold maxI
      split <;> omega
    generalize maxI y.m y.c.m = st at hf mx
    rcases firstK_inv (n := (4 * y.w * y.h).toNat) (p := fun i => decide (psF y.w y.h (blueB y.p y.m d) (st + (i : Int) - y.m).toNat = psF y.w y.h y.c (st + (i : Int) - y.c.m).toNat)) with ⟨h1, _⟩ | ⟨k, h1, _, h2, _⟩
    · rw [h1] at hf
      cases hf
    · rw [h1] at hf
      have h3 : st + (k : Int) = t := Option.some.inj hf
      omega
/-! ### the great table's parts stand on it -/
theorem on_scale {F w h : Int} {p : Pt} (hF : 0 < F) (hp : onT w h p = true) : onT (F * w) (F * h) (mulP F p) = true := by
  obtain ⟨⟨a0, a1⟩, b0, b1⟩ := onT_iff.mp hp
  refine onT_iff.mpr ⟨⟨Int.mul_nonneg (by omega) a0, (le_scale hF _ _).mpr a1⟩, Int.mul_nonneg (by omega) b0, (le_scale hF _ _).mpr b1⟩
theorem on_all {F w h : Int} {ps : List Pt} (hF : 0 < F) (hp : ∀ p ∈ ps, onT w h p = true) : ∀ p ∈ ps.map (mulP F), onT (F * w) (F * h) p = true := fun p h => by
  obtain ⟨q, hq, rfl⟩ := List.mem_map.mp h
  exact on_scale hF (hp q hq)
theorem nodup_scale {F : Int} {ps : List Pt} (hF : 0 < F) (h : ps.Nodup) : (ps.map (mulP F)).Nodup := by
  unfold List.Nodup at *
  exact List.pairwise_map.mpr (h.imp fun hne e => hne ((mulP_inj hF).mp e))
theorem on_six {w h : Int} {p : Pt} (z : LSz w h) (hp : onT w h p = true) : onT 6 6 p = true := by
  obtain ⟨⟨a0, a1⟩, b0, b1⟩ := onT_iff.mp hp
  obtain ⟨w1, w6, h1, h6⟩ := z
  exact onT_iff.mpr ⟨⟨a0, by omega⟩, b0, by omega⟩
theorem ps_on {w h : Int} {b : Bal} (s : SmOk w h b) (k : Nat) : onT w h (psF w h b k) = true := by
  obtain ⟨⟨a0, a1⟩, c0, c1⟩ := onT_iff.mp s.on
  have i1 := it_inv s.w1 a0 a1 s.hx k
  have i2 := it_inv s.h1 c0 c1 s.hy k
  exact onT_iff.mpr ⟨⟨i1.lo, i1.hi⟩, i2.lo, i2.hi⟩
/-! ### shapes -/
theorem lay_minDs : ∀ l : List (Int × Pt), PyData.canLayAll0 (l.map minD) = true
  | [] => by simp [PyData.canLayAll0]
  | p :: l => by simp [PyData.canLayAll0, minD, datP, PyData.canLay0, lay_minDs l]
theorem dep_minDs : ∀ l : List (Int × Pt), PyData.depthAll (l.map minD) ≤ 8
  | [] => by simp [PyData.depthAll]
  | p :: l => by
    have := dep_minDs l
    simp [PyData.depthAll, minD, datP, PyData.depth]
    omega
theorem shaped_minDs (l : List (Int × Pt)) : SeqAt.shaped (.list (l.map minD)) = true := by
  have h := dep_minDs l
  have e : PyData.canLay0 (.list (l.map minD)) = true := by
    rw [PyData.canLay0]
    exact lay_minDs l
  unfold SeqAt.shaped
  rw [e, Bool.true_and]
  refine decide_eq_true ?_
  rw [PyData.depth]
  omega
theorem lay_intDs : ∀ l : List Int, PyData.canLayAll0 (l.map .int) = true
  | [] => by simp [PyData.canLayAll0]
  | p :: l => by simp [PyData.canLayAll0, PyData.canLay0, lay_intDs l]
theorem dep_intDs : ∀ l : List Int, PyData.depthAll (l.map .int) ≤ 8
  | [] => by simp [PyData.depthAll]
  | p :: l => by
    have := dep_intDs l
    simp [PyData.depthAll, PyData.depth]
    omega
theorem shaped_intDs (l : List Int) : SeqAt.shaped (.list (l.map .int)) = true := by
  have h := dep_intDs l
  have e : PyData.canLay0 (.list (l.map .int)) = true := by
    rw [PyData.canLay0]
    exact lay_intDs l
  unfold SeqAt.shaped
  rw [e, Bool.true_and]
  refine decide_eq_true ?_
  rw [PyData.depth]
  omega
theorem eqv_self {d : PyData} (h : SeqAt.shaped d = true) : PyData.eqv d d = true := SeqAt.eqv_refl d (SeqAt.canLay_of_shaped h)
end CU
/-! F12: the law. -/
namespace CU
open PySem PySem.Spec PyProof.Rows L2 DL
variable {P : Program} {w : World} {K : PySem.W.Frag} {mg : Str → Option Value} {base : Heap}
theorem q_asgX {α : Type} {Δ : List Slot} {A : AE} {te : TE} {tz : TS} {g : TG} {c : α → Prop} {d : α → PyData} (h : EvR te Δ (ExR fun x => AndR (c x) (Dat K (d x)))) (hk : ∀ x, c x → ∃ Δ' js, GJ g (Dat K (d x)) Δ Δ' js ∧ SJ tz Δ' A) : SJ (tSeq (tAsg te g) tz) Δ A := fun G0 H0 G H σ D gg s a =>
  h H0 G H σ gg.gh gg.hh s _ fun v G1 H1 g1 p1 => by
    obtain ⟨x, cx, p⟩ := p1
    obtain ⟨Δ', js, hg, hn⟩ := hk x cx
    exact hg H0 G1 H1 σ v g1.gh (gg.trans g1).hh (s.grow g1) p _ fun σ' S' _ => hn G0 H0 G1 H1 σ' D (gg.trans g1) S' a
theorem q_ifX {α : Type} {Δ : List Slot} {A : AE} {t : TT} {tu tw tz : TS} {b : Bool} (Δf : α → List Slot) (c : α → Prop) (h : EvT t Δ b) (h1 : b = true → ∀ tz, (∀ x, c x → SJ tz (Δf x) A) → SJ (tSeq tu tz) Δ A) (h2 : b = false → ∀ tz, (∀ x, c x → SJ tz (Δf x) A) → SJ (tSeq tw tz) Δ A) (hr : ∀ x, c x → SJ tz (Δf x) A) : SJ (tSeq (tIfS t tu tw) tz) Δ A :=
  q_if h (fun e => h1 e tz hr) (fun e => h2 e tz hr)
theorem ev_tup1X {Δ : List Slot} {te : TE} {c : Pt → Prop} (h : EvR te Δ (ExR fun p : Pt => AndR (c p) (Dat K (datP p)))) : EvR (tTup (tCons te tNil)) Δ (ExR fun p : Pt => AndR (c p) (Dat K (.tuple [datP p]))) := fun H0 G H σ e e0 S Q q =>
  ea_cons h ea_nil H0 G H σ e e0 S _ fun xs G1 H1 g1 p1 => by
    match xs, p1 with
    | [v], ⟨⟨p, cp, r⟩, _⟩ =>
      exact ⟨by show 1 ≤ sizeLine; decide, fun a ha => q _ (upd G1 a (.tup [v])) _ (g1.trans (Gr.new g1.gh ha)) ⟨p, cp, .tup (SqT.of upd_same) (RpA.mono (sm_new (sm_back g1.gh ha)) _ _ (.cons r .nil))⟩⟩
theorem ev_add1X {Δ : List Slot} {te : TE} {c : Int → Prop} {i : Int} (h : EvR te Δ (ExR fun z : Int => AndR (c z) (Dat K (.int z)))) : EvR (tOp (rI0 fun i j => .int (i + j)) (tC (.int i)) te) Δ (ExR fun z : Int => AndR (c z) (Dat K (.int (i + z)))) :=
  ev_op (ev_int (K := K)) h fun G H x y e p1 p2 Q q => by
    obtain ⟨z, cz, p⟩ := p2
    exact ⟨i, z, p1.isInt, p.isInt, q _ G H (Gr.refl e) ⟨z, cz, .int _⟩⟩
theorem sj_show {Δ Δ' : List Slot} {A : AE} {tu : TS} (h : SJ tu Δ' A) (e : Δ = Δ' := by rfl) : SJ tu Δ A := e ▸ h
structure LPs (w h : Int) (ps : List Pt) : Prop where
  ne : 0 < ps.length
  few : ps.length ≤ 3
  on : ∀ p ∈ ps, onT w h p = true
  nd : ps.Nodup
/-- [times(f, p) for p in ps] -/
theorem ev_timesT (T : TX K mg) {tl : TE} {Δ : List Slot} {i j : Nat} {F w h : Int} {ps : List Pt} {E : XK} (hl : EvR tl Δ (Dat K (.tuple (ps.map datP)))) (z : LSz w h) (hp : ∀ p ∈ ps, onT w h p = true) (hz : ps.length ≤ 100) (hj : (wipeD Δ [j])[i]? = some (.val (Dat K (.int F)))) (hij : i ≠ j) (hjl : j < (wipeD Δ [j]).length) :
    EvR (tLc (iTup K tl) (gName j) tYes (tCall (sp__law_times K) [] E (tCons (tVar i) (tCons (tVar j) tNil))) [j]) Δ (Dat K (.list ((ps.map (mulP F)).map datP))) :=
  (ev_lcT0 (xs := ps) (enc := datP) (fun p => datP (mulP F p)) hl (Nat.lt_of_le_of_lt hz (by decide)) fun p hm => ⟨_, _, gj_name, by simp, ev_call ((F, p) : Int × Pt) (ea_cons (ev_var (by rw [List.getElem?_set_ne (Ne.symm hij)]; exact hj)) (ea_cons (ev_var (by rw [List.getElem?_set_self hjl])) ea_nil)) (on_six z (hp p hm))⟩).cast (by rw [List.map_map]; rfl)
theorem ev_timesL (T : TX K mg) {tl : TE} {Δ : List Slot} {i j : Nat} {F w h : Int} {ps : List Pt} {E : XK} (hl : EvR tl Δ (Dat K (.list (ps.map datP)))) (z : LSz w h) (hp : ∀ p ∈ ps, onT w h p = true) (hz : ps.length ≤ 100) (hj : (wipeD Δ [j])[i]? = some (.val (Dat K (.int F)))) (hij : i ≠ j) (hjl : j < (wipeD Δ [j]).length) :
    EvR (tLc (iList K tl) (gName j) tYes (tCall (sp__law_times K) [] E (tCons (tVar i) (tCons (tVar j) tNil))) [j]) Δ (Dat K (.list ((ps.map (mulP F)).map datP))) :=
  (ev_lcL0 (xs := ps) (enc := datP) (fun p => datP (mulP F p)) hl (Nat.lt_of_le_of_lt hz (by decide)) fun p hm => ⟨_, _, gj_name, by simp, ev_call ((F, p) : Int × Pt) (ea_cons (ev_var (by rw [List.getElem?_set_ne (Ne.symm hij)]; exact hj)) (ea_cons (ev_var (by rw [List.getElem?_set_self hjl])) ea_nil)) (on_six z (hp p hm))⟩).cast (by rw [List.map_map]; rfl)
/-- [(f * row[0], row[1]) for row in rows] -/
theorem ev_scaled {tl : TE} {Δ : List Slot} {i j : Nat} {F : Int} {l : List (Int × Pt)} (hl : EvR tl Δ (Dat K (.list (l.map minD)))) (hs : ∀ q ∈ l, 0 ≤ q.1 ∧ q.1 < 1000) (hz : l.length ≤ 100) (hj : (wipeD Δ [j])[i]? = some (.val (Dat K (.int F)))) (hij : i ≠ j) (hjl : j < (wipeD Δ [j]).length) :
    EvR (tLc (iList K tl) (gName j) tYes (tTup (tCons (tOp (rI CMul fun i j => .int (i * j)) (tVar i) (tOp (rIxT K) (tVar j) (tC (.int 0)))) (tCons (tOp (rIxT K) (tVar j) (tC (.int 1))) tNil))) [j]) Δ (Dat K (.list ((l.map (scM F)).map minD))) :=
  (ev_lcL0 (xs := l) (enc := minD) (fun q => minD (scM F q)) hl (Nat.lt_of_le_of_lt hz (by decide)) fun q hm => by
    have eq : EvR (tVar j) ((wipeD Δ [j]).set j (.val (Dat K (minD q)))) (Dat K (.tuple [.int q.1, datP q.2])) := ev_var (by rw [List.getElem?_set_self hjl]; rfl)
    exact ⟨_, _, gj_name, by simp, ev_tup (ds := [.int (F * q.1), datP q.2]) (ea_cons (ev_mul (ev_var (by rw [List.getElem?_set_ne (Ne.symm hij)]; exact hj)) (ev_ixT eq ev_int rfl) (cmulR (hs q hm).1 (hs q hm).2)) (ea_cons (ev_ixT eq ev_int rfl) ea_nil)) (by show 2 ≤ sizeLine; decide)⟩).cast (by rw [List.map_map]; rfl)
theorem sortM_len (g : Pt → Option (Int × Pt)) : (sortM (dirs.filterMap g)).length ≤ 100 := by
  unfold sortM
  rw [(List.mergeSort_perm _ _).length_eq]
  exact Nat.le_trans (List.length_filterMap_le _ _) (by decide)
def sp_law (K : PySem.W.Frag) : Sp := spOf (fun ns : List Int => [ScrR K ns]) (fun _ => True) (fun _ => Dat K (.bool true))
structure Great (F : Int) : Prop where
  F0 : 0 < F
  F1 : F ≤ 1083978070170987618691909490
theorem great_tb {F w h : Int} (g : Great F) (z : LSz w h) : TbOk (F * w) (F * h) := by
  obtain ⟨F0, F1⟩ := g
  obtain ⟨w1, w6, h1, h6⟩ := z
  have a1 : F * 1 ≤ F * w := Int.mul_le_mul_of_nonneg_left w1 (by omega)
  have a2 : F * w ≤ F * 6 := Int.mul_le_mul_of_nonneg_left w6 (by omega)
  have b1 : F * 1 ≤ F * h := Int.mul_le_mul_of_nonneg_left h1 (by omega)
  have b2 : F * h ≤ F * 6 := Int.mul_le_mul_of_nonneg_left h6 (by omega)
  exact ⟨by omega, by omega, by omega, by omega⟩
theorem great_ok {F w h : Int} {ps : List Pt} (g : Great F) (z : LSz w h) (l : LPs w h ps) : TabOk ⟨F * w, F * h, ps.map (mulP F)⟩ := by
  have t := great_tb g z
  exact ⟨t.w1, t.w2, t.h1, t.h2, by rw [List.length_map]; exact Nat.le_trans l.few (by decide), on_all g.F0 l.on, nodup_scale g.F0 l.nd⟩
theorem great_m {F m : Int} (g : Great F) (m0 : 0 ≤ m) (m9 : m ≤ 9) : 0 ≤ F * m ∧ F * m ≤ 1000000000000000000000000000000 := by
  have h1 := g.F0
  have h2 := g.F1
  have b2 : F * m ≤ F * 9 := Int.mul_le_mul_of_nonneg_left m9 (by omega)
  exact ⟨Int.mul_nonneg (by omega) m0, by omega⟩
/-- the ball of the great table -/
def bigB (F : Int) (b : Bal) : Bal := ⟨"red", F * b.x, F * b.y, b.dx, b.dy, F * b.m⟩
theorem big_sc (F : Int) (b : Bal) : Sc F b (bigB F b) := ⟨rfl, rfl, rfl, rfl, rfl⟩
theorem big_ok {F w h : Int} {y : LBaA} {b : Bal} (g : Great F) (hb : LBal y b) (ew : y.w = w) (eh : y.h = h) : BalOk (F * w) (F * h) (bigB F b) := by
  subst ew
  subst eh
  have gm := great_m g hb.m0 (show b.m ≤ 9 by have := hb.m4; omega)
  exact ⟨Or.inr rfl, on_scale g.F0 hb.on, gm.1, gm.2, hb.hx, hb.hy, hb.nz⟩
theorem ok_law (T : TX K mg) : FnOk P w K mg base CX0 7 T.f_law T.d_law p_law (sp_law K) := by
  refine fn_ok T.F_law sc_law (fun _ => rfl) fun cdv A outer s H E hr => ⟨_, (pss_cons (ps_set (i := 1) sc_law.nd rfl (Or.inr rfl) (pe_call (ok__law_numbers T) (hr.mono (by decide)) (by rfl) T.g__law_numbers T.F__law_numbers.kp T.b__law_numbers .nil pass0 (pa_cons (pv 0) (pa_cons pe_int pa_nil))))
(pss_cons (ps_asg (pe_call (ok__law_table T) (hr.mono (by decide)) (by rfl) T.g__law_table T.F__law_table.kp T.b__law_table .nil pass0 (pa_cons (pv 1) (pa_cons pe_int pa_nil))) (kpg_tup (n := 3) K rfl rfl (pgs_cons (pg_name (i := 2) sc_law.nd rfl (Or.inl rfl)) (pgs_cons (pg_name (i := 3) sc_law.nd rfl (Or.inl rfl)) (pgs_cons (pg_name (i := 4) sc_law.nd rfl (Or.inl rfl)) pgs_nil)))))
(pss_cons (ps_if (pt_cmpR op_eq (pe_callB (id := "len") (kc_len K) (by rfl) T.z_len (by decide +kernel) (pa_cons (pv 4) pa_nil)) pe_int (nomark _))
(pss_one (ps_set (i := 4) sc_law.nd rfl (Or.inl rfl) (pe_tup (pa_cons (pe_call (ok__law_point T) (hr.mono (by decide)) (by rfl) T.g__law_point T.F__law_point.kp T.b__law_point .nil pass0 (pa_cons (pv 1) (pa_cons pe_int (pa_cons (pv 2) (pa_cons (pv 3) pa_nil))))) pa_nil))))
pss_nil)
(pss_cons (ps_set (i := 5) sc_law.nd rfl (Or.inl rfl) (pe_call (ok__law_point T) (hr.mono (by decide)) (by rfl) T.g__law_point T.F__law_point.kp T.b__law_point .nil pass0 (pa_cons (pv 1) (pa_cons pe_int (pa_cons (pv 2) (pa_cons (pv 3) pa_nil))))))
(pss_cons (ps_set (i := 6) sc_law.nd rfl (Or.inl rfl) (pe_op op_mod (pe_callTy (T := "int") call_int1 (by rfl) T.z_int (by decide +kernel) (pa_cons (pe_ix (kix_list K) (pv 1) pe_int (fun _ _ => rfl)) pa_nil)) pe_int))
(pss_cons (ps_set (i := 7) sc_law.nd rfl (Or.inl rfl) (pe_ix (kix_tup K) (pv 4) (pe_op op_mod (pe_callTy (T := "int") call_int1 (by rfl) T.z_int (by decide +kernel) (pa_cons (pe_ix (kix_list K) (pv 1) pe_int (fun _ _ => rfl)) pa_nil)) (pe_callB (id := "len") (kc_len K) (by rfl) T.z_len (by decide +kernel) (pa_cons (pv 4) pa_nil))) (fun _ _ => rfl)))
(pss_cons (ps_set (i := 8) sc_law.nd rfl (Or.inl rfl) (pe_call (ok__law_ball T) (hr.mono (by decide)) (by rfl) T.g__law_ball T.F__law_ball.kp T.b__law_ball .nil pass0 (pa_cons (pv 1) (pa_cons pe_int (pa_cons pe_str (pa_cons (pv 2) (pa_cons (pv 3) pa_nil)))))))
(pss_cons (ps_set (i := 9) sc_law.nd rfl (Or.inr rfl) (pe_call (ok__law_walk T) (hr.mono (by decide)) (by rfl) T.g__law_walk T.F__law_walk.kp T.b__law_walk .nil pass0 (pa_cons (pv 2) (pa_cons (pv 3) (pa_cons (pv 8) (pa_cons pe_int pa_nil))))))
(pss_cons (ps_setLc (i := 10) (own := [("_law_k", 11)]) (by rfl) sc_law.nd rfl rfl (sw_true rfl rfl rfl (by decide +kernel)) (pi_range1 (by rfl) T.z_range (pa_cons (pe_op op_mod (pe_callTy (T := "int") call_int1 (by rfl) T.z_int (by decide +kernel) (pa_cons (pe_ix (kix_list K) (pv 1) pe_int (fun _ _ => rfl)) pa_nil)) pe_int) pa_nil)) (blkOk_by (N := N_law) (sc := defScope s_law) (by decide +kernel)) (fun _ _ _ _ _ => pg_name (i := 11) sc_law.nd rfl (Or.inl rfl)) (fun _ _ _ _ _ => pts_nil) (fun _ _ _ _ _ => (pe_slice (ksl_tup K) (pe_ix (kix_list K) (pv 9) (pe_op op_mod (pe_callTy (T := "int") call_int1 (by rfl) T.z_int (by decide +kernel) (pa_cons (pe_ix (kix_list K) (pv 1) (pe_op op_add pe_int (pv 11)) (fun _ _ => rfl)) pa_nil)) pe_int) (fun _ _ => rfl)) po_none (po_some pe_int))))
(pss_cons (ps_set (i := 12) sc_law.nd rfl (Or.inr rfl) (pe_op op_add pe_int (pe_call (ok__law_great T) (hr.mono (by decide)) (by rfl) T.g__law_great T.F__law_great.kp T.b__law_great .nil pass0 (pa_cons (pv 1) (pa_cons pe_int pa_nil)))))
(pss_cons (ps_set (i := 13) sc_law.nd rfl (Or.inl rfl) (pe_make T.mk_Table (ok_Table_init T) (hr.mono (by decide)) (by rfl) T.g_Table T.b_Table_init .nil pass0 (pa_cons (pe_op op_mul (pv 12) (pv 2)) (pa_cons (pe_op op_mul (pv 12) (pv 3)) (pa_cons (pe_lc (own := [("_law_one", 14)]) (by rfl) sc_law.nd (kpi_tup K rfl (pv 4)) (blkOk_by (N := N_law) (sc := defScope s_law) (by decide +kernel)) (fun _ _ _ _ _ => pg_name (i := 14) sc_law.nd rfl (Or.inl rfl)) (fun _ _ _ _ _ => pts_nil) (fun _ _ _ _ _ => (pe_call (ok__law_times T) (hr.mono (by decide)) (by rfl) T.g__law_times T.F__law_times.kp T.b__law_times .nil pass0 (pa_cons (pv 12) (pa_cons (pv 14) pa_nil))))) pa_nil)))))
(pss_cons (ps_setLc (i := 15) (own := [("_law_one", 14)]) (by rfl) sc_law.nd rfl rfl (sw_true rfl rfl rfl (by decide +kernel)) (kpi_list K rfl (pv 10)) (blkOk_by (N := N_law) (sc := defScope s_law) (by decide +kernel)) (fun _ _ _ _ _ => pg_name (i := 14) sc_law.nd rfl (Or.inl rfl)) (fun _ _ _ _ _ => pts_nil) (fun _ _ _ _ _ => (pe_call (ok__law_times T) (hr.mono (by decide)) (by rfl) T.g__law_times T.F__law_times.kp T.b__law_times .nil pass0 (pa_cons (pv 12) (pa_cons (pv 14) pa_nil)))))
(pss_cons (ps_set (i := 16) sc_law.nd rfl (Or.inl rfl) (pe_call (ok__law_due T) (hr.mono (by decide)) (by rfl) T.g__law_due T.F__law_due.kp T.b__law_due .nil pass0 (pa_cons (pe_tup (pa_cons (pv 2) (pa_cons (pv 3) (pa_cons (pv 4) pa_nil)))) (pa_cons (pv 5) (pa_cons (pv 6) (pa_cons (pv 7) (pa_cons (pv 10) pa_nil)))))))
(pss_cons (ps_set (i := 17) sc_law.nd rfl (Or.inl rfl) (pe_call (ok_pocket_aims T) (hr.mono (by decide)) (by rfl) T.g_pocket_aims T.F_pocket_aims.kp T.b_pocket_aims .nil pass0 (pa_cons (pv 13) (pa_cons (pe_call (ok__law_times T) (hr.mono (by decide)) (by rfl) T.g__law_times T.F__law_times.kp T.b__law_times .nil pass0 (pa_cons (pv 12) (pa_cons (pv 5) pa_nil))) (pa_cons (pe_op op_mul (pv 12) (pv 6)) (pa_cons (pe_call (ok__law_times T) (hr.mono (by decide)) (by rfl) T.g__law_times T.F__law_times.kp T.b__law_times .nil pass0 (pa_cons (pv 12) (pa_cons (pv 7) pa_nil))) pa_nil))))))
(pss_cons (ps_if (pt_cmpR (kop_neD K rfl hr.units) (pv 17) (pe_lc (own := [("_law_row_here", 18)]) (by rfl) sc_law.nd (kpi_list K rfl (pe_ix (kix_list K) (pv 16) pe_int (fun _ _ => rfl))) (blkOk_by (N := N_law) (sc := defScope s_law) (by decide +kernel)) (fun _ _ _ _ _ => pg_name (i := 18) sc_law.nd rfl (Or.inl rfl)) (fun _ _ _ _ _ => pts_nil) (fun _ _ _ _ _ => (pe_tup (pa_cons (pe_op op_mul (pv 12) (pe_ix (kix_tup K) (pv 18) pe_int (fun _ _ => rfl))) (pa_cons (pe_ix (kix_tup K) (pv 18) pe_int (fun _ _ => rfl)) pa_nil))))) (nomark _))
(pss_one (ps_ret pe_bl))
pss_nil)
(pss_cons (ps_set (i := 17) sc_law.nd rfl (Or.inl rfl) (pe_call (ok_order_aims T) (hr.mono (by decide)) (by rfl) T.g_order_aims T.F_order_aims.kp T.b_order_aims .nil pass0 (pa_cons (pv 13) (pa_cons (pe_call (ok__law_times T) (hr.mono (by decide)) (by rfl) T.g__law_times T.F__law_times.kp T.b__law_times .nil pass0 (pa_cons (pv 12) (pa_cons (pv 5) pa_nil))) (pa_cons (pe_op op_mul (pv 12) (pv 6)) (pa_cons (pv 15) pa_nil))))))
(pss_cons (ps_if (pt_cmpR (kop_neD K rfl hr.units) (pv 17) (pe_lc (own := [("_law_row_here", 18)]) (by rfl) sc_law.nd (kpi_list K rfl (pe_ix (kix_list K) (pv 16) pe_int (fun _ _ => rfl))) (blkOk_by (N := N_law) (sc := defScope s_law) (by decide +kernel)) (fun _ _ _ _ _ => pg_name (i := 18) sc_law.nd rfl (Or.inl rfl)) (fun _ _ _ _ _ => pts_nil) (fun _ _ _ _ _ => (pe_tup (pa_cons (pe_op op_mul (pv 12) (pe_ix (kix_tup K) (pv 18) pe_int (fun _ _ => rfl))) (pa_cons (pe_ix (kix_tup K) (pv 18) pe_int (fun _ _ => rfl)) pa_nil))))) (nomark _))
(pss_one (ps_ret pe_bl))
pss_nil)
(pss_cons (ps_set (i := 19) sc_law.nd rfl (Or.inr rfl) (pe_op op_sub (pe_op op_add (pv 12) pe_int) (pe_op op_mod (pe_callTy (T := "int") call_int1 (by rfl) T.z_int (by decide +kernel) (pa_cons (pv 12) pa_nil)) pe_int)))
(pss_cons (ps_set (i := 20) sc_law.nd rfl (Or.inl rfl) (pe_make T.mk_Table (ok_Table_init T) (hr.mono (by decide)) (by rfl) T.g_Table T.b_Table_init .nil pass0 (pa_cons (pe_op op_mul (pv 19) (pv 2)) (pa_cons (pe_op op_mul (pv 19) (pv 3)) (pa_cons (pe_lc (own := [("_law_one", 14)]) (by rfl) sc_law.nd (kpi_tup K rfl (pv 4)) (blkOk_by (N := N_law) (sc := defScope s_law) (by decide +kernel)) (fun _ _ _ _ _ => pg_name (i := 14) sc_law.nd rfl (Or.inl rfl)) (fun _ _ _ _ _ => pts_nil) (fun _ _ _ _ _ => (pe_call (ok__law_times T) (hr.mono (by decide)) (by rfl) T.g__law_times T.F__law_times.kp T.b__law_times .nil pass0 (pa_cons (pv 19) (pa_cons (pv 14) pa_nil))))) pa_nil)))))
(pss_cons (ps_set (i := 21) sc_law.nd rfl (Or.inl rfl) (pe_call (ok__law_times T) (hr.mono (by decide)) (by rfl) T.g__law_times T.F__law_times.kp T.b__law_times .nil pass0 (pa_cons (pv 19) (pa_cons (pe_slice (ksl_tup K) (pv 8) (po_some pe_int) (po_some pe_int)) pa_nil))))
(pss_cons (ps_setLc (i := 22) (own := [("_law_row_here", 18)]) (by rfl) sc_law.nd rfl rfl (sw_true rfl rfl rfl (by decide +kernel)) (kpi_list K rfl (pe_call (ok__law_met T) (hr.mono (by decide)) (by rfl) T.g__law_met T.F__law_met.kp T.b__law_met .nil pass0 (pa_cons (pv 2) (pa_cons (pv 3) (pa_cons (pv 5) (pa_cons (pv 6) (pa_cons (pv 8) pa_nil))))))) (blkOk_by (N := N_law) (sc := defScope s_law) (by decide +kernel)) (fun _ _ _ _ _ => pg_name (i := 18) sc_law.nd rfl (Or.inl rfl)) (fun _ _ _ _ _ => pts_nil) (fun _ _ _ _ _ => (pe_tup (pa_cons (pe_op op_mul (pv 19) (pe_ix (kix_tup K) (pv 18) pe_int (fun _ _ => rfl))) (pa_cons (pe_ix (kix_tup K) (pv 18) pe_int (fun _ _ => rfl)) pa_nil)))))
(pss_cons (ps_set (i := 23) sc_law.nd rfl (Or.inl rfl) (pe_tup (pa_cons pe_str (pa_cons (pe_ix (kix_tup K) (pv 21) pe_int (fun _ _ => rfl)) (pa_cons (pe_ix (kix_tup K) (pv 21) pe_int (fun _ _ => rfl)) (pa_cons (pe_ix (kix_tup K) (pv 8) pe_int (fun _ _ => rfl)) (pa_cons (pe_ix (kix_tup K) (pv 8) pe_int (fun _ _ => rfl)) (pa_cons (pe_op op_mul (pv 19) (pe_ix (kix_tup K) (pv 8) pe_int (fun _ _ => rfl))) pa_nil))))))))
(pss_cons (ps_if (pt_cmpR (kop_neD K rfl hr.units) (pe_call (ok_meeting_aims T) (hr.mono (by decide)) (by rfl) T.g_meeting_aims T.F_meeting_aims.kp T.b_meeting_aims .nil pass0 (pa_cons (pv 20) (pa_cons (pe_call (ok__law_times T) (hr.mono (by decide)) (by rfl) T.g__law_times T.F__law_times.kp T.b__law_times .nil pass0 (pa_cons (pv 19) (pa_cons (pv 5) pa_nil))) (pa_cons (pe_op op_mul (pv 19) (pv 6)) (pa_cons (pv 23) pa_nil))))) (pv 22) (nomark _))
(pss_one (ps_ret pe_bl))
pss_nil)
(pss_cons (ps_set (i := 24) sc_law.nd rfl (Or.inl rfl) (pe_call (ok__law_times T) (hr.mono (by decide)) (by rfl) T.g__law_times T.F__law_times.kp T.b__law_times .nil pass0 (pa_cons (pv 12) (pa_cons (pe_slice (ksl_tup K) (pv 8) (po_some pe_int) (po_some pe_int)) pa_nil))))
(pss_cons (ps_set (i := 25) sc_law.nd rfl (Or.inl rfl) (pe_call (ok__law_in_order T) (hr.mono (by decide)) (by rfl) T.g__law_in_order T.F__law_in_order.kp T.b__law_in_order .nil pass0 (pa_cons (pv 2) (pa_cons (pv 3) (pa_cons (pv 8) (pa_cons (pv 10) pa_nil))))))
(pss_cons (ps_set (i := 17) sc_law.nd rfl (Or.inl rfl) (pe_call (ok_in_order T) (hr.mono (by decide)) (by rfl) T.g_in_order T.F_in_order.kp T.b_in_order .nil pass0 (pa_cons (pv 13) (pa_cons (pe_tup (pa_cons pe_str (pa_cons (pe_ix (kix_tup K) (pv 24) pe_int (fun _ _ => rfl)) (pa_cons (pe_ix (kix_tup K) (pv 24) pe_int (fun _ _ => rfl)) (pa_cons (pe_ix (kix_tup K) (pv 8) pe_int (fun _ _ => rfl)) (pa_cons (pe_ix (kix_tup K) (pv 8) pe_int (fun _ _ => rfl)) (pa_cons (pe_op op_mul (pv 12) (pe_ix (kix_tup K) (pv 8) pe_int (fun _ _ => rfl))) pa_nil))))))) (pa_cons (pv 15) pa_nil)))))
(pss_cons (ps_if (pt_cmpR op_isN (pv 25) pe_non (nomark _))
(pss_one (ps_ret (pe_cmpR op_isN (pv 17) pe_non (nomark _))))
pss_nil)
(pss_one (ps_ret (pe_cmpR (kop_eqD K rfl hr.units) (pv 17) (pe_lc (own := [("_law_one", 14)]) (by rfl) sc_law.nd (kpi_list K rfl (pv 25)) (blkOk_by (N := N_law) (sc := defScope s_law) (by decide +kernel)) (fun _ _ _ _ _ => pg_name (i := 14) sc_law.nd rfl (Or.inl rfl)) (fun _ _ _ _ _ => pts_nil) (fun _ _ _ _ _ => (pe_op op_mul (pv 12) (pv 14)))) (nomark _))))))))))))))))))))))))))))))), fun ns _ => ?_⟩
  have v {Δ : List Slot} {i : Nat} {z : Int} (h : Δ[i]? = some (.val (Dat K (.int z)))) : EvR (tVar i) Δ (Dat K (.int z)) := ev_var h
  refine q_asg (R := NumsR K 50) (ev_call ns (ea_cons (ev_var rfl) (ea_cons ev_int ea_nil)) trivial) ?_
  refine sj_ex (i := 1) (Rf := fun ns : List Int => AndR (ns.length = 50 ∧ ∀ n ∈ ns, small n) (Dat K (.list (ns.map .int)))) rfl fun nu => sj_and (i := 1) rfl fun hnu => ?_
  have hn : NumOk nu := ⟨hnu.1, hnu.2⟩
  refine q_asgX (c := LTab) (d := tabD) (ev_call nu (ea_cons (ev_var rfl) (ea_cons ev_int ea_nil)) hn) fun y hy => ?_
  obtain ⟨tw, th, ps0⟩ := y
  have sz : LSz tw th := ⟨hy.w1, hy.w6, hy.h1, hy.h6⟩
  refine ⟨_, _, gj_tup (ds := [.int tw, .int th, .tuple (ps0.map datP)]) rfl (gjs_cons gj_name (gjs_cons gj_name (gjs_cons gj_name gjs_nil))), ?_⟩
  refine q_ifX (α := List Pt) (fun ps => [.val (ScrR K ns), .val (Dat K (.list (nu.map .int))), .val (Dat K (.int tw)), .val (Dat K (.int th)), .val (Dat K (.tuple (ps.map datP))), .no, .no, .no, .no, .no, .no, .no, .no, .no, .no, .no, .no, .no, .no, .no, .no, .no, .no, .no, .no, .no]) (LPs tw th) (et_test (ev_eqI (ev_cb (ea_cons (ev_var (R := Dat K (.tuple (ps0.map datP))) rfl) ea_nil) kb_lenT) ev_int)) (fun hb tz hr => ?_) (fun hb tz hr => ?_) (fun ps hps => ?_)
  · refine q_asg (ev_tup1X (c := fun p => onT tw th p = true) (ev_call (⟨nu, 8, tw, th⟩ : PoiA) (ea_cons (ev_var rfl) (ea_cons ev_int (ea_cons (v rfl) (ea_cons (v rfl) ea_nil)))) ⟨hn, by show (0 : Int) ≤ 8; decide, by show (8 : Int) < 40; decide, hy.w1, hy.h1⟩)) ?_
    refine sj_ex (i := 4) (Rf := fun p : Pt => AndR (onT tw th p = true) (Dat K (.tuple [datP p]))) rfl fun p => sj_and (i := 4) rfl fun hp => ?_
    exact hr [p] ⟨by show 0 < 1; decide, by show 1 ≤ 3; decide, fun q hq => by rw [List.mem_singleton.mp hq]; exact hp, List.nodup_cons.mpr ⟨by simp, List.nodup_nil⟩⟩
  · have hb' : ¬ ((ps0.map datP).length : Int) = 0 := of_decide_eq_false hb
    rw [List.length_map] at hb'
    exact sj_seqN (hr ps0 ⟨by omega, hy.few, hy.on, hy.nd⟩)
  -- the point, the minute, the pocket, the ball
  refine q_asg (R := PtR K tw th) (ev_call (⟨nu, 10, tw, th⟩ : PoiA) (ea_cons (ev_var rfl) (ea_cons ev_int (ea_cons (v rfl) (ea_cons (v rfl) ea_nil)))) ⟨hn, by show (0 : Int) ≤ 10; decide, by show (10 : Int) < 40; decide, hy.w1, hy.h1⟩) ?_
  refine sj_ex (i := 5) (Rf := fun p : Pt => AndR (onT tw th p = true) (Dat K (datP p))) rfl fun p => sj_and (i := 5) rfl fun onp => ?_
  refine q_asg (ev_mod (ev_intOf (ev_num hn (ev_var rfl) ev_int)) ev_int (by decide)) ?_
  have m0 := Int.emod_nonneg (nAt nu 12) (show (10 : Int) ≠ 0 by decide)
  have m1 := Int.emod_lt_of_pos (nAt nu 12) (show (0 : Int) < 10 by decide)
  generalize nAt nu 12 % 10 = m at m0 m1
  have ne := hps.ne
  have k0 := Int.emod_nonneg (nAt nu 13) (show (ps.length : Int) ≠ 0 by omega)
  have k1 := Int.emod_lt_of_pos (nAt nu 13) (show 0 < (ps.length : Int) by omega)
  obtain ⟨kp, hk⟩ : ∃ d, ps[(nAt nu 13 % (ps.length : Int)).toNat]? = some d := ⟨_, List.getElem?_eq_getElem (by omega)⟩
  have kin := List.mem_of_getElem? hk
  refine q_asg (R := Dat K (datP kp)) (ev_ixT (ds := ps.map datP) (ev_var rfl) (ev_mod (ev_intOf (ev_num hn (ev_var rfl) ev_int)) ((ev_cb (ea_cons (ev_var rfl) ea_nil) kb_lenT).cast (d' := .int (ps.length : Int)) (by rw [List.length_map])) (by omega)) ?_) ?_
  · have e : nAt nu 13 % (ps.length : Int) = (((nAt nu 13 % (ps.length : Int)).toNat : Nat) : Int) := by omega
    rw [e]
    refine atI_nat ?_
    rw [List.getElem?_map, hk]
    rfl
  refine q_asg (R := ExR fun b : Bal => AndR (LBal ⟨nu, "red", tw, th⟩ b) (Dat K (ballD b))) (ev_call (⟨nu, "red", tw, th⟩ : LBaA) (ea_cons (ev_var rfl) (ea_cons ev_int (ea_cons ev_str (ea_cons (v rfl) (ea_cons (v rfl) ea_nil))))) ⟨hn, hy.w1, hy.h1⟩) ?_
  refine sj_ex (i := 8) (Rf := fun b : Bal => AndR (LBal ⟨nu, "red", tw, th⟩ b) (Dat K (ballD b))) rfl fun b => sj_and (i := 8) rfl fun hb => ?_
  have sb : SmOk tw th b := ⟨hy.w1, hy.h1, hb.on, hb.hx, hb.hy⟩
  have b9 : b.m ≤ 9 := by
    have := hb.m4
    omega
  -- the steps, the points
  refine q_asg (R := Dat K (.list (rowsD tw th b 31))) (ev_call (⟨tw, th, b, 30⟩ : WlkA) (ea_cons (v rfl) (ea_cons (v rfl) (ea_cons (ev_var rfl) (ea_cons ev_int ea_nil)))) ⟨by show (0 : Int) ≤ 30; decide, by show (30 : Int) ≤ 100000; decide⟩) ?_
  have n0 := Int.emod_nonneg (nAt nu 19) (show (4 : Int) ≠ 0 by decide)
  have n1 := Int.emod_lt_of_pos (nAt nu 19) (show (0 : Int) < 4 by decide)
  refine q_asg (R := Dat K (.list (((List.range (nAt nu 19 % 4).toNat).map fun k : Nat => psF tw th b (nAt nu (20 + (k : Int)) % 31).toNat).map datP))) ((ev_lcR10 (fun k => datP (psF tw th b (nAt nu (20 + (k : Int)) % 31).toNat)) (ea_cons (ev_mod (ev_intOf (ev_num hn (ev_var rfl) ev_int)) ev_int (by decide)) ea_nil) ⟨by omega, Nat.lt_of_le_of_lt (show (nAt nu 19 % 4).toNat ≤ 4 by omega) (by decide)⟩ fun k hk => ⟨_, _, gj_name, by simp, ?_⟩).cast (by rw [List.map_map]; rfl)) ?_
  · have j0 := Int.emod_nonneg (nAt nu (20 + (k : Int))) (show (31 : Int) ≠ 0 by decide)
    have j1 := Int.emod_lt_of_pos (nAt nu (20 + (k : Int))) (show (0 : Int) < 31 by decide)
    have ei : ∀ {Δ : List Slot}, Δ[1]? = some (.val (Dat K (.list (nu.map .int)))) → Δ[11]? = some (.val (Dat K (.int (k : Int)))) → EvR (tOp (rI (fun _ j => 0 < j) fun i j => .int (i % j)) (tCB (fun xs H Q => (∃ i, xs = [.int i] ∧ Q (.int i) H) ∨ ∃ k, xs = [.bl k] ∧ Q (.int (if k then 1 else 0)) H) (tCons (tOp (rIxL K) (tVar 1) (tOp (rI0 fun i j => .int (i + j)) (tC (.int 20)) (tVar 11))) tNil)) (tC (.int 31))) Δ (Dat K (.int (((nAt nu (20 + (k : Int)) % 31).toNat : Nat) : Int))) := fun a c =>
      (ev_mod (ev_intOf (ev_num (i := 20 + (k : Int)) hn (ev_var a) (ev_add ev_int (v c)) (by omega) (by omega))) ev_int (by decide)).cast (congrArg PyData.int (by omega))
    exact ev_sl2 (ev_row (n := 31) (ev_var rfl) (ei rfl rfl) (by omega))
  have hpts : ∀ q ∈ ((List.range (nAt nu 19 % 4).toNat).map fun k : Nat => psF tw th b (nAt nu (20 + (k : Int)) % 31).toNat), onT tw th q = true := fun q hq => by
    obtain ⟨k, _, rfl⟩ := List.mem_map.mp hq
    exact ps_on sb _
  have lpts : ((List.range (nAt nu 19 % 4).toNat).map fun k : Nat => psF tw th b (nAt nu (20 + (k : Int)) % 31).toNat).length ≤ 3 := by
    rw [List.length_map, List.length_range]
    omega
  generalize ((List.range (nAt nu 19 % 4).toNat).map fun k : Nat => psF tw th b (nAt nu (20 + (k : Int)) % 31).toNat) = pts at hpts lpts
  -- the factor
  refine q_asg (ev_add1X (c := fun z => 0 ≤ z ∧ z < 1009 ^ 9) (ev_call nu (ea_cons (ev_var rfl) (ea_cons ev_int ea_nil)) hn)) ?_
  refine sj_ex (i := 12) (Rf := fun z : Int => AndR (0 ≤ z ∧ z < 1009 ^ 9) (Dat K (.int (1 + z)))) rfl fun z => sj_and (i := 12) rfl fun hz => ?_
  have h9 : (1009 : Int) ^ 9 = 1083978070170987618691909489 := by decide
  rw [h9] at hz
  generalize hFz : 1 + z = F
  have gF : Great F := ⟨by omega, by omega⟩
  have F0 := gF.F0
  have ai : AimOk tw th p F := ⟨F0, hy.w1, hy.h1, onp⟩
  refine sj_show (Δ' := [.val (ScrR K ns), .val (Dat K (.list (nu.map .int))), .val (Dat K (.int tw)), .val (Dat K (.int th)), .val (Dat K (.tuple (ps.map datP))), .val (Dat K (datP p)), .val (Dat K (.int m)), .val (Dat K (datP kp)), .val (Dat K (ballD b)), .val (Dat K (.list (rowsD tw th b 31))), .val (Dat K (.list (pts.map datP))), .no, .val (Dat K (.int F)), .no, .no, .no, .no, .no, .no, .no, .no, .no, .no, .no, .no, .no]) ?_
  -- the great table
  refine q_asg (ev_make (⟨F * tw, F * th, ps.map (mulP F)⟩ : TabN) (ea_cons (ev_mul (v rfl) (v rfl) (cmulR (show 0 ≤ tw by have := sz.w1; omega) (show tw < 1000 by have := sz.w6; omega))) (ea_cons (ev_mul (v rfl) (v rfl) (cmulR (show 0 ≤ th by have := sz.h1; omega) (show th < 1000 by have := sz.h6; omega))) (ea_cons (ev_timesT T (i := 12) (j := 14) (ev_var rfl) sz hps.on (Nat.le_trans hps.few (by decide)) rfl (by decide) (by show 14 < 26; decide)) ea_nil))) (great_ok gF sz hps)) ?_
  refine q_asg (ev_timesL T (i := 12) (j := 14) (ev_var rfl) sz hpts (Nat.le_trans lpts (by decide)) rfl (by decide) (by show 14 < 26; decide)) ?_
  -- what is due
  refine q_asg (R := Dat K (dueD ⟨tw, th, ps, p, m, kp, pts⟩)) (ev_call (⟨tw, th, ps, p, m, kp, pts⟩ : DueA) (ea_cons (ev_tup (ds := [.int tw, .int th, .tuple (ps.map datP)]) (ea_cons (v rfl) (ea_cons (v rfl) (ea_cons (ev_var rfl) ea_nil))) (by show 3 ≤ sizeLine; decide)) (ea_cons (ev_var rfl) (ea_cons (v rfl) (ea_cons (ev_var rfl) (ea_cons (ev_var rfl) ea_nil))))) ⟨sz, lpts, m0, show m ≤ 100 by omega⟩) ?_
  have fm := great_m gF m0 (show m ≤ 9 by omega)
  have on' := on_scale F0 onp
  have tb := great_tb gF sz
  have e13 : ∀ {Δ : List Slot}, Δ[13]? = some (.val (InsR T.C_Table (tabF K (F * tw) (F * th) (ps.map (mulP F))))) → EvR (tVar 13) Δ (TabR K T.C_Table (F * tw) (F * th) (ps.map (mulP F))) := fun h => ev_var h
  have c6 {f : Int} : CMul f m := cmulR m0 (by omega)
  refine sj_show (Δ' := [.val (ScrR K ns), .val (Dat K (.list (nu.map .int))), .val (Dat K (.int tw)), .val (Dat K (.int th)), .val (Dat K (.tuple (ps.map datP))), .val (Dat K (datP p)), .val (Dat K (.int m)), .val (Dat K (datP kp)), .val (Dat K (ballD b)), .val (Dat K (.list (rowsD tw th b 31))), .val (Dat K (.list (pts.map datP))), .no, .val (Dat K (.int F)), .val (InsR T.C_Table (tabF K (F * tw) (F * th) (ps.map (mulP F)))), .no, .val (Dat K (.list ((pts.map (mulP F)).map datP))), .val (Dat K (dueD ⟨tw, th, ps, p, m, kp, pts⟩)), .no, .no, .no, .no, .no, .no, .no, .no, .no]) ?_
  -- pocket_aims
  refine q_asg (ev_call (⟨F * tw, F * th, ps.map (mulP F), mulP F p, F * m, mulP F kp⟩ : PokA) (ea_cons (e13 rfl) (ea_cons (ev_call ((F, p) : Int × Pt) (ea_cons (v rfl) (ea_cons (ev_var rfl) ea_nil)) (on_six sz onp)) (ea_cons (ev_mul (v rfl) (v rfl) c6) (ea_cons (ev_call ((F, kp) : Int × Pt) (ea_cons (v rfl) (ea_cons (ev_var rfl) ea_nil)) (on_six sz (hps.on kp kin))) ea_nil)))) ⟨tb, on', fm.1, fm.2, on_scale F0 (hps.on kp kin), List.mem_map.mpr ⟨kp, kin, rfl⟩, on_all F0 hps.on⟩) ?_
  have t1 := told_pok (y := ⟨tw, th, ps, p, m, kp, pts⟩) ai hps.on
  have t2 := told_ora (y := ⟨tw, th, ps, p, m, kp, pts⟩) (ps := ps.map (mulP F)) ai hpts
  simp only at t1 t2
  rw [t1]
  have e16 : ∀ {Δ : List Slot}, Δ[16]? = some (.val (Dat K (dueD ⟨tw, th, ps, p, m, kp, pts⟩))) → EvR (tVar 16) Δ (Dat K (.list [.list ((sortM (dirs.filterMap (dueFall ⟨tw, th, ps, p, m, kp, pts⟩))).map minD), .list ((sortM (dirs.filterMap (dueOrd ⟨tw, th, ps, p, m, kp, pts⟩))).map minD)])) := fun h => ev_var h
  refine q_ifF (et_test (ev_neD (ev_var rfl) (ev_scaled (i := 12) (j := 18) (F := F) (ev_ixL (e16 rfl) ev_int rfl) (fun q hq => fall_small sz m0 (by show m ≤ 100; omega) hq) (sortM_len _) rfl (by decide) (by show 18 < 26; decide)) (shaped_minDs _) (shaped_minDs _))) (by rw [eqv_self (shaped_minDs _)]; rfl) (sj_seqN ?_)
  -- order_aims
  refine q_asg (ev_call (⟨F * tw, F * th, ps.map (mulP F), mulP F p, F * m, pts.map (mulP F)⟩ : OraA) (ea_cons (e13 rfl) (ea_cons (ev_call ((F, p) : Int × Pt) (ea_cons (v rfl) (ea_cons (ev_var rfl) ea_nil)) (on_six sz onp)) (ea_cons (ev_mul (v rfl) (v rfl) c6) (ea_cons (ev_var rfl) ea_nil)))) ⟨tb, on', fm.1, fm.2, on_all F0 hpts, by rw [List.length_map]; exact Nat.le_trans lpts (by decide)⟩) ?_
  rw [t2]
  refine q_ifF (et_test (ev_neD (ev_var rfl) (ev_scaled (i := 12) (j := 18) (F := F) (ev_ixL (e16 rfl) ev_int rfl) (fun q hq => ord_small sz lpts m0 (by show m ≤ 100; omega) hq) (sortM_len _) rfl (by decide) (by show 18 < 26; decide)) (shaped_minDs _) (shaped_minDs _))) (by rw [eqv_self (shaped_minDs _)]; rfl) (sj_seqN ?_)
  refine sj_show (Δ' := [.val (ScrR K ns), .val (Dat K (.list (nu.map .int))), .val (Dat K (.int tw)), .val (Dat K (.int th)), .val (Dat K (.tuple (ps.map datP))), .val (Dat K (datP p)), .val (Dat K (.int m)), .val (Dat K (datP kp)), .val (Dat K (ballD b)), .val (Dat K (.list (rowsD tw th b 31))), .val (Dat K (.list (pts.map datP))), .no, .val (Dat K (.int F)), .val (InsR T.C_Table (tabF K (F * tw) (F * th) (ps.map (mulP F)))), .no, .val (Dat K (.list ((pts.map (mulP F)).map datP))), .val (Dat K (dueD ⟨tw, th, ps, p, m, kp, pts⟩)), .val (Dat K (.list (((sortM (dirs.filterMap (dueOrd ⟨tw, th, ps, p, m, kp, pts⟩))).map (scM F)).map minD))), .no, .no, .no, .no, .no, .no, .no, .no]) ?_
  -- the odd factor
  refine q_asg (ev_sub (ev_add (v rfl) ev_int) (ev_mod (ev_intOf (v rfl)) ev_int (by decide))) ?_
  have hO2 : (F + 1 - F % 2) % 2 = 1 := by omega
  have gO : Great (F + 1 - F % 2) := ⟨by omega, by omega⟩
  generalize F + 1 - F % 2 = O at hO2 gO
  have O0 := gO.F0
  have aO : AimOk tw th p O := ⟨O0, hy.w1, hy.h1, onp⟩
  refine q_asg (ev_make (⟨O * tw, O * th, ps.map (mulP O)⟩ : TabN) (ea_cons (ev_mul (v rfl) (v rfl) (cmulR (show 0 ≤ tw by have := sz.w1; omega) (show tw < 1000 by have := sz.w6; omega))) (ea_cons (ev_mul (v rfl) (v rfl) (cmulR (show 0 ≤ th by have := sz.h1; omega) (show th < 1000 by have := sz.h6; omega))) (ea_cons (ev_timesT T (i := 19) (j := 14) (ev_var rfl) sz hps.on (Nat.le_trans hps.few (by decide)) rfl (by decide) (by show 14 < 26; decide)) ea_nil))) (great_ok gO sz hps)) ?_
  refine sj_show (Δ' := [.val (ScrR K ns), .val (Dat K (.list (nu.map .int))), .val (Dat K (.int tw)), .val (Dat K (.int th)), .val (Dat K (.tuple (ps.map datP))), .val (Dat K (datP p)), .val (Dat K (.int m)), .val (Dat K (datP kp)), .val (Dat K (ballD b)), .val (Dat K (.list (rowsD tw th b 31))), .val (Dat K (.list (pts.map datP))), .no, .val (Dat K (.int F)), .val (InsR T.C_Table (tabF K (F * tw) (F * th) (ps.map (mulP F)))), .no, .val (Dat K (.list ((pts.map (mulP F)).map datP))), .val (Dat K (dueD ⟨tw, th, ps, p, m, kp, pts⟩)), .val (Dat K (.list (((sortM (dirs.filterMap (dueOrd ⟨tw, th, ps, p, m, kp, pts⟩))).map (scM F)).map minD))), .no, .val (Dat K (.int O)), .val (InsR T.C_Table (tabF K (O * tw) (O * th) (ps.map (mulP O)))), .no, .no, .no, .no, .no]) ?_
  have e8 : ∀ {Δ : List Slot}, Δ[8]? = some (.val (Dat K (ballD b))) → EvR (tVar 8) Δ (Dat K (.tuple [.str b.n, .int b.x, .int b.y, .int b.dx, .int b.dy, .int b.m])) := fun h => ev_var h
  have e8s : ∀ {Δ : List Slot}, Δ[8]? = some (.val (Dat K (ballD b))) → EvR (tSl (rSlT K) (tVar 8) (tPart (tC (.int 1))) (tPart (tC (.int 3)))) Δ (Dat K (datP (b.x, b.y))) := fun h => (ev_slT (e8 h) (eo_some (ev_int (K := K))) (eo_some (ev_int (K := K))) (fun z => by cases z.1)).cast rfl
  refine q_asg (R := Dat K (datP (mulP O (b.x, b.y)))) (ev_call ((O, (b.x, b.y)) : Int × Pt) (ea_cons (v rfl) (ea_cons (e8s rfl) ea_nil)) (on_six sz hb.on)) ?_
  have mok : MetOk ⟨tw, th, p, m, b⟩ := ⟨sz, m0, show m ≤ 9 by omega, hb.m0, b9⟩
  refine q_asg (ev_scaled (i := 19) (j := 18) (F := O) (l := sortM (dirs.filterMap (metOne ⟨tw, th, p, m, b⟩))) (ev_call (⟨tw, th, p, m, b⟩ : MetA) (ea_cons (v rfl) (ea_cons (v rfl) (ea_cons (ev_var rfl) (ea_cons (v rfl) (ea_cons (ev_var rfl) ea_nil))))) mok) (fun q hq => met_small sz m0 (by show m ≤ 100; omega) hb.m0 (by show b.m ≤ 100; omega) hq) (sortM_len _) rfl (by decide) (by show 18 < 26; decide)) ?_
  have cb {f : Int} : CMul f b.m := cmulR hb.m0 (by omega)
  have e21 : ∀ {Δ : List Slot}, Δ[21]? = some (.val (Dat K (datP (mulP O (b.x, b.y))))) → EvR (tVar 21) Δ (Dat K (.tuple [.int (O * b.x), .int (O * b.y)])) := fun h => ev_var h
  refine q_asg (R := Dat K (ballD (bigB O b))) (ev_tup (ds := [.str "red", .int (O * b.x), .int (O * b.y), .int b.dx, .int b.dy, .int (O * b.m)]) (ea_cons ev_str (ea_cons (ev_ixT (e21 rfl) ev_int rfl) (ea_cons (ev_ixT (e21 rfl) ev_int rfl) (ea_cons (ev_ixT (e8 rfl) ev_int rfl) (ea_cons (ev_ixT (e8 rfl) ev_int rfl) (ea_cons (ev_mul (v rfl) (ev_ixT (e8 rfl) ev_int rfl) cb) ea_nil)))))) (by show 6 ≤ sizeLine; decide)) ?_
  refine sj_show (Δ' := [.val (ScrR K ns), .val (Dat K (.list (nu.map .int))), .val (Dat K (.int tw)), .val (Dat K (.int th)), .val (Dat K (.tuple (ps.map datP))), .val (Dat K (datP p)), .val (Dat K (.int m)), .val (Dat K (datP kp)), .val (Dat K (ballD b)), .val (Dat K (.list (rowsD tw th b 31))), .val (Dat K (.list (pts.map datP))), .no, .val (Dat K (.int F)), .val (InsR T.C_Table (tabF K (F * tw) (F * th) (ps.map (mulP F)))), .no, .val (Dat K (.list ((pts.map (mulP F)).map datP))), .val (Dat K (dueD ⟨tw, th, ps, p, m, kp, pts⟩)), .val (Dat K (.list (((sortM (dirs.filterMap (dueOrd ⟨tw, th, ps, p, m, kp, pts⟩))).map (scM F)).map minD))), .no, .val (Dat K (.int O)), .val (InsR T.C_Table (tabF K (O * tw) (O * th) (ps.map (mulP O)))), .val (Dat K (datP (mulP O (b.x, b.y)))), .val (Dat K (.list (((sortM (dirs.filterMap (metOne ⟨tw, th, p, m, b⟩))).map (scM O)).map minD))), .val (Dat K (ballD (bigB O b))), .no, .no]) ?_
  have om := great_m gO m0 (show m ≤ 9 by omega)
  have e20 : ∀ {Δ : List Slot}, Δ[20]? = some (.val (InsR T.C_Table (tabF K (O * tw) (O * th) (ps.map (mulP O))))) → EvR (tVar 20) Δ (TabR K T.C_Table (O * tw) (O * th) (ps.map (mulP O))) := fun h => ev_var h
  have t3 := told_mee (y := ⟨tw, th, p, m, b⟩) (ps := ps.map (mulP O)) aO hO2 (big_sc O b) sb
  simp only at t3
  refine q_ifF (et_test (ev_neD ((ev_call (⟨O * tw, O * th, ps.map (mulP O), mulP O p, O * m, bigB O b⟩ : MeeA) (ea_cons (e20 rfl) (ea_cons (ev_call ((O, p) : Int × Pt) (ea_cons (v rfl) (ea_cons (ev_var rfl) ea_nil)) (on_six sz onp)) (ea_cons (ev_mul (v rfl) (v rfl) c6) (ea_cons (ev_var rfl) ea_nil)))) ⟨great_tb gO sz, on_scale O0 onp, om.1, om.2, big_ok gO hb rfl rfl⟩).cast (congrArg (fun l => PyData.list (l.map minD)) t3)) (ev_var rfl) (shaped_minDs _) (shaped_minDs _))) (by rw [eqv_self (shaped_minDs _)]; rfl) (sj_seqN ?_)
  -- in_order
  refine q_asg (R := Dat K (datP (mulP F (b.x, b.y)))) (ev_call ((F, (b.x, b.y)) : Int × Pt) (ea_cons (v rfl) (ea_cons (e8s rfl) ea_nil)) (on_six sz hb.on)) ?_
  refine q_asg (R := Dat K (ordD (lawIn tw th b pts))) (ev_call (⟨tw, th, b, pts⟩ : LInA) (ea_cons (v rfl) (ea_cons (v rfl) (ea_cons (ev_var rfl) (ea_cons (ev_var rfl) ea_nil)))) ⟨sz, lpts⟩) ?_
  refine sj_show (Δ' := [.val (ScrR K ns), .val (Dat K (.list (nu.map .int))), .val (Dat K (.int tw)), .val (Dat K (.int th)), .val (Dat K (.tuple (ps.map datP))), .val (Dat K (datP p)), .val (Dat K (.int m)), .val (Dat K (datP kp)), .val (Dat K (ballD b)), .val (Dat K (.list (rowsD tw th b 31))), .val (Dat K (.list (pts.map datP))), .no, .val (Dat K (.int F)), .val (InsR T.C_Table (tabF K (F * tw) (F * th) (ps.map (mulP F)))), .no, .val (Dat K (.list ((pts.map (mulP F)).map datP))), .val (Dat K (dueD ⟨tw, th, ps, p, m, kp, pts⟩)), .val (Dat K (.list (((sortM (dirs.filterMap (dueOrd ⟨tw, th, ps, p, m, kp, pts⟩))).map (scM F)).map minD))), .no, .val (Dat K (.int O)), .val (InsR T.C_Table (tabF K (O * tw) (O * th) (ps.map (mulP O)))), .val (Dat K (datP (mulP O (b.x, b.y)))), .val (Dat K (.list (((sortM (dirs.filterMap (metOne ⟨tw, th, p, m, b⟩))).map (scM O)).map minD))), .val (Dat K (ballD (bigB O b))), .val (Dat K (datP (mulP F (b.x, b.y)))), .val (Dat K (ordD (lawIn tw th b pts)))]) ?_
  have e24 : ∀ {Δ : List Slot}, Δ[24]? = some (.val (Dat K (datP (mulP F (b.x, b.y))))) → EvR (tVar 24) Δ (Dat K (.tuple [.int (F * b.x), .int (F * b.y)])) := fun h => ev_var h
  have zB : ScB F tw th b (bigB F b) := ⟨F0, big_sc F b, hb.hx, hb.hy, hb.nz⟩
  have t4 : ordF (F * tw) (F * th) (bigB F b) (pts.map (mulP F)) (F * b.m) = (lawIn tw th b pts).map (List.map (F * ·)) := by
    rw [lawIn_ord sb hpts]
    exact ordF_scale zB pts _ _ (fun t => le_scale F0 _ _)
  refine q_asg (R := Dat K (ordD ((lawIn tw th b pts).map (List.map (F * ·))))) ((ev_call (⟨F * tw, F * th, ps.map (mulP F), bigB F b, pts.map (mulP F)⟩ : OrdA) (ea_cons (e13 rfl) (ea_cons (ev_tup (ds := [.str "red", .int (F * b.x), .int (F * b.y), .int b.dx, .int b.dy, .int (F * b.m)]) (ea_cons ev_str (ea_cons (ev_ixT (e24 rfl) ev_int rfl) (ea_cons (ev_ixT (e24 rfl) ev_int rfl) (ea_cons (ev_ixT (e8 rfl) ev_int rfl) (ea_cons (ev_ixT (e8 rfl) ev_int rfl) (ea_cons (ev_mul (v rfl) (ev_ixT (e8 rfl) ev_int rfl) cb) ea_nil)))))) (by show 6 ≤ sizeLine; decide)) (ea_cons (ev_var rfl) ea_nil))) ⟨tb, big_ok gF hb rfl rfl, on_all F0 hpts, by rw [List.length_map]; exact Nat.le_trans lpts (by decide)⟩).cast (congrArg ordD t4)) ?_
  refine sj_show (Δ' := [.val (ScrR K ns), .val (Dat K (.list (nu.map .int))), .val (Dat K (.int tw)), .val (Dat K (.int th)), .val (Dat K (.tuple (ps.map datP))), .val (Dat K (datP p)), .val (Dat K (.int m)), .val (Dat K (datP kp)), .val (Dat K (ballD b)), .val (Dat K (.list (rowsD tw th b 31))), .val (Dat K (.list (pts.map datP))), .no, .val (Dat K (.int F)), .val (InsR T.C_Table (tabF K (F * tw) (F * th) (ps.map (mulP F)))), .no, .val (Dat K (.list ((pts.map (mulP F)).map datP))), .val (Dat K (dueD ⟨tw, th, ps, p, m, kp, pts⟩)), .val (Dat K (ordD ((lawIn tw th b pts).map (List.map (F * ·))))), .no, .val (Dat K (.int O)), .val (InsR T.C_Table (tabF K (O * tw) (O * th) (ps.map (mulP O)))), .val (Dat K (datP (mulP O (b.x, b.y)))), .val (Dat K (.list (((sortM (dirs.filterMap (metOne ⟨tw, th, p, m, b⟩))).map (scM O)).map minD))), .val (Dat K (ballD (bigB O b))), .val (Dat K (datP (mulP F (b.x, b.y)))), .val (Dat K (ordD (lawIn tw th b pts)))]) ?_
  have ism := fun l => in_small (l := l) sz lpts hb.m0 (show b.m ≤ 100 by omega)
  have iln : ∀ l, lawIn tw th b pts = some l → l.length = pts.length := fun l h => lawOrd_len h
  generalize lawIn tw th b pts = o at ism iln
  match o, ism, iln with
  | none, _, _ =>
    exact q_ifT (et_test (ev_isN (K := K) (d := .none) (ev_var rfl) ev_non)) rfl (sj_seqR (sj_retD (ev_isN (K := K) (d := .none) (ev_var rfl) ev_non) rfl rfl))
  | some l, ism, iln =>
    have lsm := ism l rfl
    have lln := iln l rfl
    refine q_ifF (et_test (ev_isN (K := K) (d := .list (l.map .int)) (ev_var rfl) ev_non)) rfl (sj_seqN ?_)
    refine sj_retD (ev_eqD (d := .list ((l.map (F * ·)).map .int)) (d' := .list ((l.map (F * ·)).map .int)) (ev_var rfl) ((ev_lcL0 (xs := l) (enc := .int) (fun t => .int (F * t)) (ev_var rfl) ?_ fun t ht => ⟨_, _, gj_name, by simp, ev_mul (v rfl) (v rfl) (cmulR (lsm t ht).1 (lsm t ht).2)⟩).cast (by rw [List.map_map]; rfl)) (shaped_intDs _) (shaped_intDs _)) rfl (by rw [eqv_self (shaped_intDs _)])
    exact Nat.lt_of_le_of_lt (show l.length ≤ 3 by omega) (by decide)
end CU
/-! F13: what the top has left (printed by genEnd.py). -/
namespace CU
open PySem PySem.Spec PyProof.Rows L2 DL
variable {K : PySem.W.Frag} {mg : Str → Option Value} {h : Heap}
def DefIn (K : PySem.W.Frag) (mg : Str → Option Value) (x qual : Str) (st : Stmt) (ps : List Str) : Prop := ∃ (f : Addr) (fd : FuncData), FunX K x qual st f fd ∧ Binds K fd ps [] ∧ mg x = some (.ref f)
def MetIn (K : PySem.W.Frag) (C : Addr) (x qual : Str) (st : Stmt) (ps : List Str) : Prop := ∃ (f : Addr) (fd : FuncData), FunX K x qual st f fd ∧ Binds K fd ps [] ∧ Meth K C x f
def MkIn (K : PySem.W.Frag) (C : Addr) (qual : Str) (st : Stmt) (ps : List Str) : Prop := ∃ (f : Addr) (fd : FuncData), FunX K "__init__" qual st f fd ∧ Binds K fd ps [] ∧ Mk K C f
def BdOk (x qual : Str) (st : Stmt) (ps : List Str) : Prop := ∀ (kV doc pm : Value) (an : Option Addr) (cdv ct : Value) (us : List Value), us.length = ps.length → bindArgs (PySem.W.fnOf x qual (defArgs st) (defBody st) (defScope st) .none kV doc pm an cdv ct) ⟨us, []⟩ = pure (ps.zip us)
section
variable {x qual : Str} {st : Stmt} {ps : List Str} {f C : Addr} {oc : Value} {od an : Option Addr} {osl : Array (Option Value)} {kV doc pm cdv ct : Value}
theorem def_in (X : K.In h) (G : h.Ns mainGlobals mg) (b : BdOk x qual st ps) (a : PySem.W.nsIn K mainGlobals x = some (some (.ref f)))
    (l : K.lookup f = some ⟨oc, od, .func (PySem.W.fnOf x qual (defArgs st) (defBody st) (defScope st) .none kV doc pm an cdv ct), osl⟩) (c : PySem.W.codeIn K cdv qual = true) (k : PySem.W.keepIn K (.ref f) = true) : DefIn K mg x qual st ps :=
  ⟨f, _, ⟨⟨oc, .none, kV, doc, pm, cdv, ct, od, an, osl, rfl, l, c⟩, k⟩, (fun_mk (st := st) l c k).binds (fun kV doc pm an cdv ct us hl => b kV doc pm an cdv ct us hl), PySem.W.mg_of X G a⟩
theorem met_in (b : BdOk x qual st ps) (a : PySem.W.findIn K (.ref C) x = some (some (.ref f))) (i : PySem.W.isFn K (.ref f) = true)
    (l : K.lookup f = some ⟨oc, od, .func (PySem.W.fnOf x qual (defArgs st) (defBody st) (defScope st) .none kV doc pm an cdv ct), osl⟩) (c : PySem.W.codeIn K cdv qual = true) (k : PySem.W.keepIn K (.ref f) = true) : MetIn K C x qual st ps :=
  ⟨f, _, ⟨⟨oc, .none, kV, doc, pm, cdv, ct, od, an, osl, rfl, l, c⟩, k⟩, (fun_mk (st := st) l c k).binds (fun kV doc pm an cdv ct us hl => b kV doc pm an cdv ct us hl), ⟨a, i, k⟩⟩
theorem mk_in (b : BdOk "__init__" qual st ps) (m : PySem.W.makesIn K C = true) (kc : PySem.W.keepIn K (.ref C) = true) (a : PySem.W.findIn K (.ref C) "__init__" = some (some (.ref f))) (i : PySem.W.isFn K (.ref f) = true)
    (l : K.lookup f = some ⟨oc, od, .func (PySem.W.fnOf "__init__" qual (defArgs st) (defBody st) (defScope st) .none kV doc pm an cdv ct), osl⟩) (c : PySem.W.codeIn K cdv qual = true) (k : PySem.W.keepIn K (.ref f) = true) : MkIn K C qual st ps :=
  ⟨f, _, ⟨⟨oc, .none, kV, doc, pm, cdv, ct, od, an, osl, rfl, l, c⟩, k⟩, (fun_mk (st := st) l c k).binds (fun kV doc pm an cdv ct us hl => b kV doc pm an cdv ct us hl), ⟨m, a, i, kc⟩⟩
/-- Table's, with its default -/
theorem mk_tab {T e : Addr} {o1 : Value} {o2 : Option Addr} {o3 : Array (Option Value)} {nn : Nat} (m : PySem.W.makesIn K C = true) (kc : PySem.W.keepIn K (.ref C) = true) (a : PySem.W.findIn K (.ref C) "__init__" = some (some (.ref f))) (i : PySem.W.isFn K (.ref f) = true)
    (l : K.lookup f = some ⟨oc, od, .func (PySem.W.fnOf "__init__" "Table.__init__" (defArgs s_Table_init) (defBody s_Table_init) (defScope s_Table_init) (.ref T) kV doc pm an cdv ct), osl⟩) (lT : K.lookup T = some ⟨o1, o2, .seq #[.ref e] nn, o3⟩) (c : PySem.W.codeIn K cdv "Table.__init__" = true) (k : PySem.W.keepIn K (.ref f) = true) :
    MkIn K C "Table.__init__" s_Table_init p_Table_init := by
  have F : FunD K "__init__" "Table.__init__" (defArgs s_Table_init) (defBody s_Table_init) (defScope s_Table_init) [V.ref e] [] f (PySem.W.fnOf "__init__" "Table.__init__" (defArgs s_Table_init) (defBody s_Table_init) (defScope s_Table_init) (.ref T) kV doc pm an cdv ct) :=
    ⟨⟨oc, od, .ref T, kV, doc, pm, an, cdv, ct, osl, rfl, l, c, Or.inr ⟨by simp, T, _, [.ref e], nn, rfl, lT, rfl, .cons rfl .nil⟩, Or.inl rfl⟩, k⟩
  obtain ⟨ds, hv, hb⟩ := F.binds1 (ps := p_Table_init) 4 1 (by simp) rfl (fun T kV doc pm an cdv ct us its hl h1 => by
    match us, hl with
    | [u1, u2, u3, u4], _ => exact ⟨_, rfl, by
        match its, h1 with
        | [u], _ => rfl⟩)
  have e0 : ds = [] := by
    cases hv
    rfl
  rw [e0] at hb
  exact ⟨f, _, ⟨⟨oc, .ref T, kV, doc, pm, cdv, ct, od, an, osl, rfl, l, c⟩, k⟩, hb, ⟨m, a, i, kc⟩⟩
/-- a pair of ints of the top -/
theorem pair_in {t : Addr} {i j : Int} {t1 t2 : Tok} {o2 : Option Addr} {o3 : Array (Option Value)} {nn : Nat} (l : K.lookup t = some ⟨.type "tuple", o2, .seq #[.int i t1, .int j t2] nn, o3⟩) (G : Hp) : Rp K G (.ref t) (datP (i, j)) :=
  .tup (xs := [V.int i, V.int j]) (Or.inr ⟨_, _, nn, l, rfl, rfl, by show 2 ≤ sizeLine; decide, .cons ⟨t1, rfl⟩ (.cons ⟨t2, rfl⟩ .nil)⟩) (.cons (.int i) (.cons (.int j) .nil))
end

theorem bd_require : BdOk "require" "require" s_require p_require := fun _ _ _ _ _ _ us hl => match us, hl with | [_], _ => rfl
theorem bd_Table_is_point : BdOk "is_point" "Table.is_point" s_Table_is_point p_Table_is_point := fun _ _ _ _ _ _ us hl => match us, hl with | [_, _], _ => rfl
theorem bd_Table_check_point : BdOk "check_point" "Table.check_point" s_Table_check_point p_Table_check_point := fun _ _ _ _ _ _ us hl => match us, hl with | [_, _], _ => rfl
theorem bd_Table_is_pocket : BdOk "is_pocket" "Table.is_pocket" s_Table_is_pocket p_Table_is_pocket := fun _ _ _ _ _ _ us hl => match us, hl with | [_, _], _ => rfl
theorem bd_is_name : BdOk "is_name" "is_name" s_is_name p_is_name := fun _ _ _ _ _ _ us hl => match us, hl with | [_], _ => rfl
theorem bd_is_ball : BdOk "is_ball" "is_ball" s_is_ball p_is_ball := fun _ _ _ _ _ _ us hl => match us, hl with | [_, _], _ => rfl
theorem bd_check_ball : BdOk "check_ball" "check_ball" s_check_ball p_check_ball := fun _ _ _ _ _ _ us hl => match us, hl with | [_, _], _ => rfl
theorem bd_inverse : BdOk "inverse" "inverse" s_inverse p_inverse := fun _ _ _ _ _ _ us hl => match us, hl with | [_, _], _ => rfl
theorem bd_chinese : BdOk "chinese" "chinese" s_chinese p_chinese := fun _ _ _ _ _ _ us hl => match us, hl with | [_, _], _ => rfl
theorem bd_solved : BdOk "solved" "solved" s_solved p_solved := fun _ _ _ _ _ _ us hl => match us, hl with | [_, _, _], _ => rfl
theorem bd_united : BdOk "united" "united" s_united p_united := fun _ _ _ _ _ _ us hl => match us, hl with | [_, _], _ => rfl
theorem bd_point_classes : BdOk "point_classes" "point_classes" s_point_classes p_point_classes := fun _ _ _ _ _ _ us hl => match us, hl with | [_, _, _, _], _ => rfl
theorem bd_meeting_classes : BdOk "meeting_classes" "meeting_classes" s_meeting_classes p_meeting_classes := fun _ _ _ _ _ _ us hl => match us, hl with | [_, _, _, _, _], _ => rfl
theorem bd_crossed : BdOk "crossed" "crossed" s_crossed p_crossed := fun _ _ _ _ _ _ us hl => match us, hl with | [_, _], _ => rfl
theorem bd_is_class : BdOk "is_class" "is_class" s_is_class p_is_class := fun _ _ _ _ _ _ us hl => match us, hl with | [_], _ => rfl
theorem bd_are_apart : BdOk "are_apart" "are_apart" s_are_apart p_are_apart := fun _ _ _ _ _ _ us hl => match us, hl with | [_, _], _ => rfl
theorem bd_Times_init : BdOk "__init__" "Times.__init__" s_Times_init p_Times_init := fun _ _ _ _ _ _ us hl => match us, hl with | [_, _, _, _], _ => rfl
theorem bd_Times_is_within : BdOk "is_within" "Times.is_within" s_Times_is_within p_Times_is_within := fun _ _ _ _ _ _ us hl => match us, hl with | [_, _], _ => rfl
theorem bd_Times_next_from : BdOk "next_from" "Times.next_from" s_Times_next_from p_Times_next_from := fun _ _ _ _ _ _ us hl => match us, hl with | [_, _], _ => rfl
theorem bd_part_classes : BdOk "part_classes" "part_classes" s_part_classes p_part_classes := fun _ _ _ _ _ _ us hl => match us, hl with | [_, _, _], _ => rfl
theorem bd_at_point : BdOk "at_point" "at_point" s_at_point p_at_point := fun _ _ _ _ _ _ us hl => match us, hl with | [_, _, _], _ => rfl
theorem bd_meetings : BdOk "meetings" "meetings" s_meetings p_meetings := fun _ _ _ _ _ _ us hl => match us, hl with | [_, _, _], _ => rfl
theorem bd_fall_of : BdOk "fall_of" "fall_of" s_fall_of p_fall_of := fun _ _ _ _ _ _ us hl => match us, hl with | [_, _], _ => rfl
theorem bd_starts_from : BdOk "starts_from" "starts_from" s_starts_from p_starts_from := fun _ _ _ _ _ _ us hl => match us, hl with | [_, _, _], _ => rfl
theorem bd_pocket_aims : BdOk "pocket_aims" "pocket_aims" s_pocket_aims p_pocket_aims := fun _ _ _ _ _ _ us hl => match us, hl with | [_, _, _, _], _ => rfl
theorem bd_meeting_aims : BdOk "meeting_aims" "meeting_aims" s_meeting_aims p_meeting_aims := fun _ _ _ _ _ _ us hl => match us, hl with | [_, _, _, _], _ => rfl
theorem bd_in_order : BdOk "in_order" "in_order" s_in_order p_in_order := fun _ _ _ _ _ _ us hl => match us, hl with | [_, _, _], _ => rfl
theorem bd_order_aims : BdOk "order_aims" "order_aims" s_order_aims p_order_aims := fun _ _ _ _ _ _ us hl => match us, hl with | [_, _, _, _], _ => rfl
theorem bd__law_row : BdOk "_law_row" "_law_row" s__law_row p__law_row := fun _ _ _ _ _ _ us hl => match us, hl with | [_, _], _ => rfl
theorem bd__law_numbers : BdOk "_law_numbers" "_law_numbers" s__law_numbers p__law_numbers := fun _ _ _ _ _ _ us hl => match us, hl with | [_, _], _ => rfl
theorem bd__law_table : BdOk "_law_table" "_law_table" s__law_table p__law_table := fun _ _ _ _ _ _ us hl => match us, hl with | [_, _], _ => rfl
theorem bd__law_ball : BdOk "_law_ball" "_law_ball" s__law_ball p__law_ball := fun _ _ _ _ _ _ us hl => match us, hl with | [_, _, _, _, _], _ => rfl
theorem bd__law_walk : BdOk "_law_walk" "_law_walk" s__law_walk p__law_walk := fun _ _ _ _ _ _ us hl => match us, hl with | [_, _, _, _], _ => rfl
theorem bd__law_fall : BdOk "_law_fall" "_law_fall" s__law_fall p__law_fall := fun _ _ _ _ _ _ us hl => match us, hl with | [_, _], _ => rfl
theorem bd__law_great : BdOk "_law_great" "_law_great" s__law_great p__law_great := fun _ _ _ _ _ _ us hl => match us, hl with | [_, _], _ => rfl
theorem bd__law_minutes : BdOk "_law_minutes" "_law_minutes" s__law_minutes p__law_minutes := fun _ _ _ _ _ _ us hl => match us, hl with | [_, _, _, _], _ => rfl
theorem bd__law_point : BdOk "_law_point" "_law_point" s__law_point p__law_point := fun _ _ _ _ _ _ us hl => match us, hl with | [_, _, _, _], _ => rfl
theorem bd__law_directions : BdOk "_law_directions" "_law_directions" s__law_directions p__law_directions := fun _ _ _ _ _ _ us hl => match us, hl with | [], _ => rfl
theorem bd__law_times : BdOk "_law_times" "_law_times" s__law_times p__law_times := fun _ _ _ _ _ _ us hl => match us, hl with | [_, _], _ => rfl
theorem bd__law_in_order : BdOk "_law_in_order" "_law_in_order" s__law_in_order p__law_in_order := fun _ _ _ _ _ _ us hl => match us, hl with | [_, _, _, _], _ => rfl
theorem bd__law_due : BdOk "_law_due" "_law_due" s__law_due p__law_due := fun _ _ _ _ _ _ us hl => match us, hl with | [_, _, _, _, _], _ => rfl
theorem bd__law_first_meeting : BdOk "_law_first_meeting" "_law_first_meeting" s__law_first_meeting p__law_first_meeting := fun _ _ _ _ _ _ us hl => match us, hl with | [_, _, _, _], _ => rfl
theorem bd__law_met : BdOk "_law_met" "_law_met" s__law_met p__law_met := fun _ _ _ _ _ _ us hl => match us, hl with | [_, _, _, _, _], _ => rfl
theorem bd_law : BdOk "law" "law" s_law p_law := fun _ _ _ _ _ _ us hl => match us, hl with | [_], _ => rfl
/-- the top by its parts -/
theorem tx_of {C1 C2 : Addr} {aw tw : Addr} {ad e1 e2 e3 e4 e5 e6 e7 e8 : Addr} {tM tP tN tC tS u1 u2 a1 b1 a2 b2 a3 b3 a4 b4 a5 b5 a6 b6 a7 b7 a8 b8 : Tok} {x2 x3 xa xb xc xd xe xf xg xh : Option Addr} {y1 y2 y3 ya yb yc yd ye yf yg yh : Array (Option Value)} {n1 n2 n3 na nb nc nd ne nf ng nh : Nat}
    (X : K.In h) (G : h.Ns mainGlobals mg)
    (h_require : DefIn K mg "require" "require" s_require p_require)
    (h_is_name : DefIn K mg "is_name" "is_name" s_is_name p_is_name)
    (h_is_ball : DefIn K mg "is_ball" "is_ball" s_is_ball p_is_ball)
    (h_check_ball : DefIn K mg "check_ball" "check_ball" s_check_ball p_check_ball)
    (h_inverse : DefIn K mg "inverse" "inverse" s_inverse p_inverse)
    (h_chinese : DefIn K mg "chinese" "chinese" s_chinese p_chinese)
    (h_solved : DefIn K mg "solved" "solved" s_solved p_solved)
    (h_united : DefIn K mg "united" "united" s_united p_united)
    (h_point_classes : DefIn K mg "point_classes" "point_classes" s_point_classes p_point_classes)
    (h_meeting_classes : DefIn K mg "meeting_classes" "meeting_classes" s_meeting_classes p_meeting_classes)
    (h_crossed : DefIn K mg "crossed" "crossed" s_crossed p_crossed)
    (h_is_class : DefIn K mg "is_class" "is_class" s_is_class p_is_class)
    (h_are_apart : DefIn K mg "are_apart" "are_apart" s_are_apart p_are_apart)
    (h_part_classes : DefIn K mg "part_classes" "part_classes" s_part_classes p_part_classes)
    (h_at_point : DefIn K mg "at_point" "at_point" s_at_point p_at_point)
    (h_meetings : DefIn K mg "meetings" "meetings" s_meetings p_meetings)
    (h_fall_of : DefIn K mg "fall_of" "fall_of" s_fall_of p_fall_of)
    (h_starts_from : DefIn K mg "starts_from" "starts_from" s_starts_from p_starts_from)
    (h_pocket_aims : DefIn K mg "pocket_aims" "pocket_aims" s_pocket_aims p_pocket_aims)
    (h_meeting_aims : DefIn K mg "meeting_aims" "meeting_aims" s_meeting_aims p_meeting_aims)
    (h_in_order : DefIn K mg "in_order" "in_order" s_in_order p_in_order)
    (h_order_aims : DefIn K mg "order_aims" "order_aims" s_order_aims p_order_aims)
    (h__law_row : DefIn K mg "_law_row" "_law_row" s__law_row p__law_row)
    (h__law_numbers : DefIn K mg "_law_numbers" "_law_numbers" s__law_numbers p__law_numbers)
    (h__law_table : DefIn K mg "_law_table" "_law_table" s__law_table p__law_table)
    (h__law_ball : DefIn K mg "_law_ball" "_law_ball" s__law_ball p__law_ball)
    (h__law_walk : DefIn K mg "_law_walk" "_law_walk" s__law_walk p__law_walk)
    (h__law_fall : DefIn K mg "_law_fall" "_law_fall" s__law_fall p__law_fall)
    (h__law_great : DefIn K mg "_law_great" "_law_great" s__law_great p__law_great)
    (h__law_minutes : DefIn K mg "_law_minutes" "_law_minutes" s__law_minutes p__law_minutes)
    (h__law_point : DefIn K mg "_law_point" "_law_point" s__law_point p__law_point)
    (h__law_directions : DefIn K mg "_law_directions" "_law_directions" s__law_directions p__law_directions)
    (h__law_times : DefIn K mg "_law_times" "_law_times" s__law_times p__law_times)
    (h__law_in_order : DefIn K mg "_law_in_order" "_law_in_order" s__law_in_order p__law_in_order)
    (h__law_due : DefIn K mg "_law_due" "_law_due" s__law_due p__law_due)
    (h__law_first_meeting : DefIn K mg "_law_first_meeting" "_law_first_meeting" s__law_first_meeting p__law_first_meeting)
    (h__law_met : DefIn K mg "_law_met" "_law_met" s__law_met p__law_met)
    (h_law : DefIn K mg "law" "law" s_law p_law)
    (g_Table : PySem.W.nsIn K mainGlobals "Table" = some (some (.ref C1))) (pg_Table : PySem.W.plainGet K C1 Str.empty = true) (hd_Table : PySem.W.hasDictIn K C1 = true) (po_Table : PySem.W.plainOver K C1 = true) (sa_Table : PySem.W.findIn K (.ref C1) "__setattr__" = some (some (.builtin "object.__setattr__")))
    (h_Table_init : MkIn K C1 "Table.__init__" s_Table_init p_Table_init)
    (h_Table_is_point : MetIn K C1 "is_point" "Table.is_point" s_Table_is_point p_Table_is_point)
    (h_Table_check_point : MetIn K C1 "check_point" "Table.check_point" s_Table_check_point p_Table_check_point)
    (h_Table_is_pocket : MetIn K C1 "is_pocket" "Table.is_pocket" s_Table_is_pocket p_Table_is_pocket)
    (n_Table_width : PySem.W.findIn K (.ref C1) "width" = some none)
    (n_Table_height : PySem.W.findIn K (.ref C1) "height" = some none)
    (n_Table_pockets : PySem.W.findIn K (.ref C1) "pockets" = some none)
    (g_Times : PySem.W.nsIn K mainGlobals "Times" = some (some (.ref C2))) (pg_Times : PySem.W.plainGet K C2 Str.empty = true) (hd_Times : PySem.W.hasDictIn K C2 = true) (po_Times : PySem.W.plainOver K C2 = true) (sa_Times : PySem.W.findIn K (.ref C2) "__setattr__" = some (some (.builtin "object.__setattr__")))
    (h_Times_init : MkIn K C2 "Times.__init__" s_Times_init p_Times_init)
    (h_Times_is_within : MetIn K C2 "is_within" "Times.is_within" s_Times_is_within p_Times_is_within)
    (h_Times_next_from : MetIn K C2 "next_from" "Times.next_from" s_Times_next_from p_Times_next_from)
    (n_Times_start : PySem.W.findIn K (.ref C2) "start" = some none)
    (n_Times_end : PySem.W.findIn K (.ref C2) "end" = some none)
    (n_Times_classes : PySem.W.findIn K (.ref C2) "classes" = some none)
    (m_MOST : PySem.W.nsIn K mainGlobals "MOST" = some (some (.int 1000000000000000000000000000000 tM)))
    (m_MOST_POCKETS : PySem.W.nsIn K mainGlobals "MOST_POCKETS" = some (some (.int 12 tP)))
    (m_MOST_NAME_CHARS : PySem.W.nsIn K mainGlobals "MOST_NAME_CHARS" = some (some (.int 12 tN)))
    (m_MOST_CLASSES : PySem.W.nsIn K mainGlobals "MOST_CLASSES" = some (some (.int 64 tC)))
    (m_NAME_CHARS : PySem.W.nsIn K mainGlobals "NAME_CHARS" = some (some (.str "abcdefghijklmnopqrstuvwxyz0123456789" tS)))
    (m_WHOLE : PySem.W.nsIn K mainGlobals "WHOLE" = some (some (.ref aw))) (l_WHOLE : K.lookup aw = some ⟨.type "list", none, .seq #[.ref tw] n1, y1⟩) (l_W0 : K.lookup tw = some ⟨.type "tuple", x2, .seq #[.int 0 u1, .int 1 u2] n2, y2⟩)
    (m_DIRECTIONS : PySem.W.nsIn K mainGlobals "DIRECTIONS" = some (some (.ref ad))) (l_DIRECTIONS : K.lookup ad = some ⟨.type "tuple", x3, .seq #[.ref e1, .ref e2, .ref e3, .ref e4, .ref e5, .ref e6, .ref e7, .ref e8] n3, y3⟩)
    (l_D1 : K.lookup e1 = some ⟨.type "tuple", xa, .seq #[.int (-1) a1, .int (-1) b1] na, ya⟩)
    (l_D2 : K.lookup e2 = some ⟨.type "tuple", xb, .seq #[.int (-1) a2, .int (0) b2] nb, yb⟩)
    (l_D3 : K.lookup e3 = some ⟨.type "tuple", xc, .seq #[.int (-1) a3, .int (1) b3] nc, yc⟩)
    (l_D4 : K.lookup e4 = some ⟨.type "tuple", xd, .seq #[.int (0) a4, .int (-1) b4] nd, yd⟩)
    (l_D5 : K.lookup e5 = some ⟨.type "tuple", xe, .seq #[.int (0) a5, .int (1) b5] ne, ye⟩)
    (l_D6 : K.lookup e6 = some ⟨.type "tuple", xf, .seq #[.int (1) a6, .int (-1) b6] nf, yf⟩)
    (l_D7 : K.lookup e7 = some ⟨.type "tuple", xg, .seq #[.int (1) a7, .int (0) b7] ng, yg⟩)
    (l_D8 : K.lookup e8 = some ⟨.type "tuple", xh, .seq #[.int (1) a8, .int (1) b8] nh, yh⟩)
    (m_gcd : PySem.W.nsIn K mainGlobals "gcd" = some (some (.builtin "math.gcd")))
    (z_len : PySem.W.nsIn K mainGlobals "len" = some none)
    (z_all : PySem.W.nsIn K mainGlobals "all" = some none)
    (z_tuple : PySem.W.nsIn K mainGlobals "tuple" = some none)
    (z_enumerate : PySem.W.nsIn K mainGlobals "enumerate" = some none)
    (z_isinstance : PySem.W.nsIn K mainGlobals "isinstance" = some none)
    (z_list : PySem.W.nsIn K mainGlobals "list" = some none)
    (z_int : PySem.W.nsIn K mainGlobals "int" = some none)
    (z_sorted : PySem.W.nsIn K mainGlobals "sorted" = some none)
    (z_min : PySem.W.nsIn K mainGlobals "min" = some none)
    (z_max : PySem.W.nsIn K mainGlobals "max" = some none)
    (z_abs : PySem.W.nsIn K mainGlobals "abs" = some none)
    (z_range : PySem.W.nsIn K mainGlobals "range" = some none)
    : ∃ T : TX K mg, True := by
  obtain ⟨f_require, d_require, F_require, b_require, g_require⟩ := h_require
  obtain ⟨f_Table_init, d_Table_init, F_Table_init, b_Table_init, g_Table_init⟩ := h_Table_init
  obtain ⟨f_Table_is_point, d_Table_is_point, F_Table_is_point, b_Table_is_point, g_Table_is_point⟩ := h_Table_is_point
  obtain ⟨f_Table_check_point, d_Table_check_point, F_Table_check_point, b_Table_check_point, g_Table_check_point⟩ := h_Table_check_point
  obtain ⟨f_Table_is_pocket, d_Table_is_pocket, F_Table_is_pocket, b_Table_is_pocket, g_Table_is_pocket⟩ := h_Table_is_pocket
  obtain ⟨f_is_name, d_is_name, F_is_name, b_is_name, g_is_name⟩ := h_is_name
  obtain ⟨f_is_ball, d_is_ball, F_is_ball, b_is_ball, g_is_ball⟩ := h_is_ball
  obtain ⟨f_check_ball, d_check_ball, F_check_ball, b_check_ball, g_check_ball⟩ := h_check_ball
  obtain ⟨f_inverse, d_inverse, F_inverse, b_inverse, g_inverse⟩ := h_inverse
  obtain ⟨f_chinese, d_chinese, F_chinese, b_chinese, g_chinese⟩ := h_chinese
  obtain ⟨f_solved, d_solved, F_solved, b_solved, g_solved⟩ := h_solved
  obtain ⟨f_united, d_united, F_united, b_united, g_united⟩ := h_united
  obtain ⟨f_point_classes, d_point_classes, F_point_classes, b_point_classes, g_point_classes⟩ := h_point_classes
  obtain ⟨f_meeting_classes, d_meeting_classes, F_meeting_classes, b_meeting_classes, g_meeting_classes⟩ := h_meeting_classes
  obtain ⟨f_crossed, d_crossed, F_crossed, b_crossed, g_crossed⟩ := h_crossed
  obtain ⟨f_is_class, d_is_class, F_is_class, b_is_class, g_is_class⟩ := h_is_class
  obtain ⟨f_are_apart, d_are_apart, F_are_apart, b_are_apart, g_are_apart⟩ := h_are_apart
  obtain ⟨f_Times_init, d_Times_init, F_Times_init, b_Times_init, g_Times_init⟩ := h_Times_init
  obtain ⟨f_Times_is_within, d_Times_is_within, F_Times_is_within, b_Times_is_within, g_Times_is_within⟩ := h_Times_is_within
  obtain ⟨f_Times_next_from, d_Times_next_from, F_Times_next_from, b_Times_next_from, g_Times_next_from⟩ := h_Times_next_from
  obtain ⟨f_part_classes, d_part_classes, F_part_classes, b_part_classes, g_part_classes⟩ := h_part_classes
  obtain ⟨f_at_point, d_at_point, F_at_point, b_at_point, g_at_point⟩ := h_at_point
  obtain ⟨f_meetings, d_meetings, F_meetings, b_meetings, g_meetings⟩ := h_meetings
  obtain ⟨f_fall_of, d_fall_of, F_fall_of, b_fall_of, g_fall_of⟩ := h_fall_of
  obtain ⟨f_starts_from, d_starts_from, F_starts_from, b_starts_from, g_starts_from⟩ := h_starts_from
  obtain ⟨f_pocket_aims, d_pocket_aims, F_pocket_aims, b_pocket_aims, g_pocket_aims⟩ := h_pocket_aims
  obtain ⟨f_meeting_aims, d_meeting_aims, F_meeting_aims, b_meeting_aims, g_meeting_aims⟩ := h_meeting_aims
  obtain ⟨f_in_order, d_in_order, F_in_order, b_in_order, g_in_order⟩ := h_in_order
  obtain ⟨f_order_aims, d_order_aims, F_order_aims, b_order_aims, g_order_aims⟩ := h_order_aims
  obtain ⟨f__law_row, d__law_row, F__law_row, b__law_row, g__law_row⟩ := h__law_row
  obtain ⟨f__law_numbers, d__law_numbers, F__law_numbers, b__law_numbers, g__law_numbers⟩ := h__law_numbers
  obtain ⟨f__law_table, d__law_table, F__law_table, b__law_table, g__law_table⟩ := h__law_table
  obtain ⟨f__law_ball, d__law_ball, F__law_ball, b__law_ball, g__law_ball⟩ := h__law_ball
  obtain ⟨f__law_walk, d__law_walk, F__law_walk, b__law_walk, g__law_walk⟩ := h__law_walk
  obtain ⟨f__law_fall, d__law_fall, F__law_fall, b__law_fall, g__law_fall⟩ := h__law_fall
  obtain ⟨f__law_great, d__law_great, F__law_great, b__law_great, g__law_great⟩ := h__law_great
  obtain ⟨f__law_minutes, d__law_minutes, F__law_minutes, b__law_minutes, g__law_minutes⟩ := h__law_minutes
  obtain ⟨f__law_point, d__law_point, F__law_point, b__law_point, g__law_point⟩ := h__law_point
  obtain ⟨f__law_directions, d__law_directions, F__law_directions, b__law_directions, g__law_directions⟩ := h__law_directions
  obtain ⟨f__law_times, d__law_times, F__law_times, b__law_times, g__law_times⟩ := h__law_times
  obtain ⟨f__law_in_order, d__law_in_order, F__law_in_order, b__law_in_order, g__law_in_order⟩ := h__law_in_order
  obtain ⟨f__law_due, d__law_due, F__law_due, b__law_due, g__law_due⟩ := h__law_due
  obtain ⟨f__law_first_meeting, d__law_first_meeting, F__law_first_meeting, b__law_first_meeting, g__law_first_meeting⟩ := h__law_first_meeting
  obtain ⟨f__law_met, d__law_met, F__law_met, b__law_met, g__law_met⟩ := h__law_met
  obtain ⟨f_law, d_law, F_law, b_law, g_law⟩ := h_law
  refine ⟨{
    f_require := f_require,
    d_require := d_require,
    F_require := F_require,
    b_require := b_require,
    g_require := g_require,
    f_Table_init := f_Table_init,
    d_Table_init := d_Table_init,
    F_Table_init := F_Table_init,
    b_Table_init := b_Table_init,
    f_Table_is_point := f_Table_is_point,
    d_Table_is_point := d_Table_is_point,
    F_Table_is_point := F_Table_is_point,
    b_Table_is_point := b_Table_is_point,
    f_Table_check_point := f_Table_check_point,
    d_Table_check_point := d_Table_check_point,
    F_Table_check_point := F_Table_check_point,
    b_Table_check_point := b_Table_check_point,
    f_Table_is_pocket := f_Table_is_pocket,
    d_Table_is_pocket := d_Table_is_pocket,
    F_Table_is_pocket := F_Table_is_pocket,
    b_Table_is_pocket := b_Table_is_pocket,
    f_is_name := f_is_name,
    d_is_name := d_is_name,
    F_is_name := F_is_name,
    b_is_name := b_is_name,
    g_is_name := g_is_name,
    f_is_ball := f_is_ball,
    d_is_ball := d_is_ball,
    F_is_ball := F_is_ball,
    b_is_ball := b_is_ball,
    g_is_ball := g_is_ball,
    f_check_ball := f_check_ball,
    d_check_ball := d_check_ball,
    F_check_ball := F_check_ball,
    b_check_ball := b_check_ball,
    g_check_ball := g_check_ball,
    f_inverse := f_inverse,
    d_inverse := d_inverse,
    F_inverse := F_inverse,
    b_inverse := b_inverse,
    g_inverse := g_inverse,
    f_chinese := f_chinese,
    d_chinese := d_chinese,
    F_chinese := F_chinese,
    b_chinese := b_chinese,
    g_chinese := g_chinese,
    f_solved := f_solved,
    d_solved := d_solved,
    F_solved := F_solved,
    b_solved := b_solved,
    g_solved := g_solved,
    f_united := f_united,
    d_united := d_united,
    F_united := F_united,
    b_united := b_united,
    g_united := g_united,
    f_point_classes := f_point_classes,
    d_point_classes := d_point_classes,
    F_point_classes := F_point_classes,
    b_point_classes := b_point_classes,
    g_point_classes := g_point_classes,
    f_meeting_classes := f_meeting_classes,
    d_meeting_classes := d_meeting_classes,
    F_meeting_classes := F_meeting_classes,
    b_meeting_classes := b_meeting_classes,
    g_meeting_classes := g_meeting_classes,
    f_crossed := f_crossed,
    d_crossed := d_crossed,
    F_crossed := F_crossed,
    b_crossed := b_crossed,
    g_crossed := g_crossed,
    f_is_class := f_is_class,
    d_is_class := d_is_class,
    F_is_class := F_is_class,
    b_is_class := b_is_class,
    g_is_class := g_is_class,
    f_are_apart := f_are_apart,
    d_are_apart := d_are_apart,
    F_are_apart := F_are_apart,
    b_are_apart := b_are_apart,
    g_are_apart := g_are_apart,
    f_Times_init := f_Times_init,
    d_Times_init := d_Times_init,
    F_Times_init := F_Times_init,
    b_Times_init := b_Times_init,
    f_Times_is_within := f_Times_is_within,
    d_Times_is_within := d_Times_is_within,
    F_Times_is_within := F_Times_is_within,
    b_Times_is_within := b_Times_is_within,
    f_Times_next_from := f_Times_next_from,
    d_Times_next_from := d_Times_next_from,
    F_Times_next_from := F_Times_next_from,
    b_Times_next_from := b_Times_next_from,
    f_part_classes := f_part_classes,
    d_part_classes := d_part_classes,
    F_part_classes := F_part_classes,
    b_part_classes := b_part_classes,
    g_part_classes := g_part_classes,
    f_at_point := f_at_point,
    d_at_point := d_at_point,
    F_at_point := F_at_point,
    b_at_point := b_at_point,
    g_at_point := g_at_point,
    f_meetings := f_meetings,
    d_meetings := d_meetings,
    F_meetings := F_meetings,
    b_meetings := b_meetings,
    g_meetings := g_meetings,
    f_fall_of := f_fall_of,
    d_fall_of := d_fall_of,
    F_fall_of := F_fall_of,
    b_fall_of := b_fall_of,
    g_fall_of := g_fall_of,
    f_starts_from := f_starts_from,
    d_starts_from := d_starts_from,
    F_starts_from := F_starts_from,
    b_starts_from := b_starts_from,
    g_starts_from := g_starts_from,
    f_pocket_aims := f_pocket_aims,
    d_pocket_aims := d_pocket_aims,
    F_pocket_aims := F_pocket_aims,
    b_pocket_aims := b_pocket_aims,
    g_pocket_aims := g_pocket_aims,
    f_meeting_aims := f_meeting_aims,
    d_meeting_aims := d_meeting_aims,
    F_meeting_aims := F_meeting_aims,
    b_meeting_aims := b_meeting_aims,
    g_meeting_aims := g_meeting_aims,
    f_in_order := f_in_order,
    d_in_order := d_in_order,
    F_in_order := F_in_order,
    b_in_order := b_in_order,
    g_in_order := g_in_order,
    f_order_aims := f_order_aims,
    d_order_aims := d_order_aims,
    F_order_aims := F_order_aims,
    b_order_aims := b_order_aims,
    g_order_aims := g_order_aims,
    f__law_row := f__law_row,
    d__law_row := d__law_row,
    F__law_row := F__law_row,
    b__law_row := b__law_row,
    g__law_row := g__law_row,
    f__law_numbers := f__law_numbers,
    d__law_numbers := d__law_numbers,
    F__law_numbers := F__law_numbers,
    b__law_numbers := b__law_numbers,
    g__law_numbers := g__law_numbers,
    f__law_table := f__law_table,
    d__law_table := d__law_table,
    F__law_table := F__law_table,
    b__law_table := b__law_table,
    g__law_table := g__law_table,
    f__law_ball := f__law_ball,
    d__law_ball := d__law_ball,
    F__law_ball := F__law_ball,
    b__law_ball := b__law_ball,
    g__law_ball := g__law_ball,
    f__law_walk := f__law_walk,
    d__law_walk := d__law_walk,
    F__law_walk := F__law_walk,
    b__law_walk := b__law_walk,
    g__law_walk := g__law_walk,
    f__law_fall := f__law_fall,
    d__law_fall := d__law_fall,
    F__law_fall := F__law_fall,
    b__law_fall := b__law_fall,
    g__law_fall := g__law_fall,
    f__law_great := f__law_great,
    d__law_great := d__law_great,
    F__law_great := F__law_great,
    b__law_great := b__law_great,
    g__law_great := g__law_great,
    f__law_minutes := f__law_minutes,
    d__law_minutes := d__law_minutes,
    F__law_minutes := F__law_minutes,
    b__law_minutes := b__law_minutes,
    g__law_minutes := g__law_minutes,
    f__law_point := f__law_point,
    d__law_point := d__law_point,
    F__law_point := F__law_point,
    b__law_point := b__law_point,
    g__law_point := g__law_point,
    f__law_directions := f__law_directions,
    d__law_directions := d__law_directions,
    F__law_directions := F__law_directions,
    b__law_directions := b__law_directions,
    g__law_directions := g__law_directions,
    f__law_times := f__law_times,
    d__law_times := d__law_times,
    F__law_times := F__law_times,
    b__law_times := b__law_times,
    g__law_times := g__law_times,
    f__law_in_order := f__law_in_order,
    d__law_in_order := d__law_in_order,
    F__law_in_order := F__law_in_order,
    b__law_in_order := b__law_in_order,
    g__law_in_order := g__law_in_order,
    f__law_due := f__law_due,
    d__law_due := d__law_due,
    F__law_due := F__law_due,
    b__law_due := b__law_due,
    g__law_due := g__law_due,
    f__law_first_meeting := f__law_first_meeting,
    d__law_first_meeting := d__law_first_meeting,
    F__law_first_meeting := F__law_first_meeting,
    b__law_first_meeting := b__law_first_meeting,
    g__law_first_meeting := g__law_first_meeting,
    f__law_met := f__law_met,
    d__law_met := d__law_met,
    F__law_met := F__law_met,
    b__law_met := b__law_met,
    g__law_met := g__law_met,
    f_law := f_law,
    d_law := d_law,
    F_law := F_law,
    b_law := b_law,
    g_law := g_law,
    C_Table := C1,
    g_Table := PySem.W.mg_of X G g_Table,
    c_Table := ⟨pg_Table, hd_Table, po_Table, sa_Table⟩,
    mk_Table := g_Table_init,
    C_Times := C2,
    g_Times := PySem.W.mg_of X G g_Times,
    c_Times := ⟨pg_Times, hd_Times, po_Times, sa_Times⟩,
    mk_Times := g_Times_init,
    M_Table_is_point := g_Table_is_point,
    M_Table_check_point := g_Table_check_point,
    M_Table_is_pocket := g_Table_is_pocket,
    M_Times_is_within := g_Times_is_within,
    M_Times_next_from := g_Times_next_from,
    n_Table_width := n_Table_width,
    n_Table_height := n_Table_height,
    n_Table_pockets := n_Table_pockets,
    n_Times_start := n_Times_start,
    n_Times_end := n_Times_end,
    n_Times_classes := n_Times_classes,
    t_MOST := tM,
    m_MOST := PySem.W.mg_of X G m_MOST,
    t_MOST_POCKETS := tP,
    m_MOST_POCKETS := PySem.W.mg_of X G m_MOST_POCKETS,
    t_MOST_NAME_CHARS := tN,
    m_MOST_NAME_CHARS := PySem.W.mg_of X G m_MOST_NAME_CHARS,
    t_MOST_CLASSES := tC,
    m_MOST_CLASSES := PySem.W.mg_of X G m_MOST_CLASSES,
    t_NAME_CHARS := tS,
    m_NAME_CHARS := PySem.W.mg_of X G m_NAME_CHARS,
    a_WHOLE := aw,
    v_WHOLE := .ref tw,
    m_WHOLE := PySem.W.mg_of X G m_WHOLE,
    r_WHOLE := fun H => Or.inr ⟨_, _, n1, l_WHOLE, rfl, rfl, rfl, by show 1 ≤ sizeLine; decide, .cons rfl .nil⟩,
    q_WHOLE := fun G => pair_in l_W0 G,
    a_DIRECTIONS := ad,
    m_DIRECTIONS := PySem.W.mg_of X G m_DIRECTIONS,
    r_DIRECTIONS := fun G => .tup (xs := [V.ref e1, V.ref e2, V.ref e3, V.ref e4, V.ref e5, V.ref e6, V.ref e7, V.ref e8]) (Or.inr ⟨_, _, n3, l_DIRECTIONS, rfl, rfl, by show 8 ≤ sizeLine; decide, .cons rfl (.cons rfl (.cons rfl (.cons rfl (.cons rfl (.cons rfl (.cons rfl (.cons rfl .nil)))))))⟩) (.cons (pair_in l_D1 G) (.cons (pair_in l_D2 G) (.cons (pair_in l_D3 G) (.cons (pair_in l_D4 G) (.cons (pair_in l_D5 G) (.cons (pair_in l_D6 G) (.cons (pair_in l_D7 G) (.cons (pair_in l_D8 G) .nil)))))))),
    m_gcd := PySem.W.mg_of X G m_gcd,
    z_len := PySem.W.mg_none_of X G z_len,
    z_all := PySem.W.mg_none_of X G z_all,
    z_tuple := PySem.W.mg_none_of X G z_tuple,
    z_enumerate := PySem.W.mg_none_of X G z_enumerate,
    z_isinstance := PySem.W.mg_none_of X G z_isinstance,
    z_list := PySem.W.mg_none_of X G z_list,
    z_int := PySem.W.mg_none_of X G z_int,
    z_sorted := PySem.W.mg_none_of X G z_sorted,
    z_min := PySem.W.mg_none_of X G z_min,
    z_max := PySem.W.mg_none_of X G z_max,
    z_abs := PySem.W.mg_none_of X G z_abs,
    z_range := PySem.W.mg_none_of X G z_range
  }, trivial⟩
theorem law_of {P : Program} {w : World} {fa : Addr} (X : K.In h) (G : h.Ns mainGlobals mg) (hfa : mg "law" = some (.ref fa)) (hT : ∃ T : TX K mg, True) {f4 : Addr} {oc kV doc pm cdv ct : Value} {od an : Option Addr} {osl : Array (Option Value)} (a4 : PySem.W.nsIn K mainGlobals "law" = some (some (.ref f4)))
    (lk : K.lookup f4 = some ⟨oc, od, .func (PySem.W.fnOf "law" "law" (defArgs s_law) (defBody s_law) (defScope s_law) .none kV doc pm an cdv ct), osl⟩) :
    ∃ fd : FuncData, (∀ (s : Shared) (v : Value), BindsTo s fd ⟨[v], []⟩ [("_law_script", v)]) ∧ ∀ base : Heap, K.In base → base.Ns mainGlobals mg → FnOk P w K mg base CX0 7 fa fd ["_law_script"] (sp_law K) := by
  obtain ⟨T, _⟩ := hT
  have e := hfa.symm.trans T.g_law
  cases e
  have e4 := hfa.symm.trans (PySem.W.mg_of X G a4)
  cases e4
  obtain ⟨oc', dV', kV', doc', pm', cdv', ct', od', an', osl', e1, lk', cd'⟩ := T.F_law.ex
  refine ⟨T.d_law, fun s v => ?_, fun base _ _ => ok_law T⟩
  rw [lk] at lk'
  have e2 := congrArg Obj.data (Option.some.inj lk')
  have e3 : PySem.W.fnOf "law" "law" (defArgs s_law) (defBody s_law) (defScope s_law) .none kV doc pm an cdv ct = T.d_law := Data.func.inj e2
  rw [← e3]
  exact .of_eq rfl
theorem walk {l : PySem.W.OpenLaw} {q : Program} {loose : List Str} {XP : (Str → Option Value) → Heap → Prop} {YP : World → Heap → Prop} {d : DefRec} {K : Params → PySem.W.Frag} (hn : l.most = some 63) (hdf : d.params.defaults = [])
    (hY : ∀ (w : World) (h : Heap), YP w h → (K w.params).In h)
    (F : ∀ (w : World) (mg : Str → Option Value) (fa : Addr) (h : Heap), (K w.params).In h → h.Ns mainGlobals mg → mg d.name = some (.ref fa) →
      ∃ fd : FuncData, (∀ (s : Shared) (u : Value), BindsTo s fd ⟨[u], []⟩ [("_law_script", u)]) ∧ ∀ base : Heap, (K w.params).In base → base.Ns mainGlobals mg → FnOk l.prog w (K w.params) mg base CX0 7 fa fd ["_law_script"] (sp_law (K w.params))) :
    PySem.W.WalkO q loose XP YP l.row.toRowW d [] (fun f vs => PySem.call f vs) :=
  L2.walk_of (n := 63) (k := 7) (x := "_law_script") (CX := fun _ => CX0) (sp := fun w => sp_law (K w.params)) hn (by decide) hdf ⟨rfl, by decide, by decide⟩ hY F
    (fun w H a ns hl _ hS => ⟨ns, H, trivial, Same.refl _, ⟨⟨a, rfl, hS⟩, trivial⟩, fun v G2 H2 _ hv => Rp.isBl hv⟩) fun _ _ _ _ _ z => z
end CU
open PySem PySem.W PyProof.Rows
set_option maxHeartbeats 0 in
theorem PySem.Challenge.cw_cushioned_k54_whole_aims_on_great_tables_holds : PySem.Challenge.rw_cushioned_k54_whole_aims_on_great_tables.Holds := by
  w_on; o_law; k_head; (case hw => w_witness2)
  k_fill
  refine CU.walk (l := PySem.Challenge.rw_cushioned_k54_whole_aims_on_great_tables) rfl rfl (fun w h Y => PySem.W.kIn_of Y) ?F
  case F =>
    intro w mg fa h KX G hmg
    refine' CU.law_of KX G hmg ?hT ?a4 ?lk
    (case a4 => k_is); (case lk => k_is)
    case hT =>
      refine' CU.tx_of KX G ?h_require ?h_is_name ?h_is_ball ?h_check_ball ?h_inverse ?h_chinese ?h_solved ?h_united ?h_point_classes ?h_meeting_classes ?h_crossed ?h_is_class ?h_are_apart ?h_part_classes ?h_at_point ?h_meetings ?h_fall_of ?h_starts_from ?h_pocket_aims ?h_meeting_aims ?h_in_order ?h_order_aims ?h__law_row ?h__law_numbers ?h__law_table ?h__law_ball ?h__law_walk ?h__law_fall ?h__law_great ?h__law_minutes ?h__law_point ?h__law_directions ?h__law_times ?h__law_in_order ?h__law_due ?h__law_first_meeting ?h__law_met ?h_law ?g_Table ?pg_Table ?hd_Table ?po_Table ?sa_Table ?h_Table_init ?h_Table_is_point ?h_Table_check_point ?h_Table_is_pocket ?n_Table_width ?n_Table_height ?n_Table_pockets ?g_Times ?pg_Times ?hd_Times ?po_Times ?sa_Times ?h_Times_init ?h_Times_is_within ?h_Times_next_from ?n_Times_start ?n_Times_end ?n_Times_classes ?m_MOST ?m_MOST_POCKETS ?m_MOST_NAME_CHARS ?m_MOST_CLASSES ?m_NAME_CHARS ?m_WHOLE ?l_WHOLE ?l_W0 ?m_DIRECTIONS ?l_DIRECTIONS ?l_D1 ?l_D2 ?l_D3 ?l_D4 ?l_D5 ?l_D6 ?l_D7 ?l_D8 ?m_gcd ?z_len ?z_all ?z_tuple ?z_enumerate ?z_isinstance ?z_list ?z_int ?z_sorted ?z_min ?z_max ?z_abs ?z_range
      (case h_require => (refine' CU.def_in KX G CU.bd_require ?a ?l ?c ?k; (case a => k_is); (case l => k_is); (case c => k_is); (case k => k_is)))
      (case h_is_name => (refine' CU.def_in KX G CU.bd_is_name ?a ?l ?c ?k; (case a => k_is); (case l => k_is); (case c => k_is); (case k => k_is)))
      (case h_is_ball => (refine' CU.def_in KX G CU.bd_is_ball ?a ?l ?c ?k; (case a => k_is); (case l => k_is); (case c => k_is); (case k => k_is)))
      (case h_check_ball => (refine' CU.def_in KX G CU.bd_check_ball ?a ?l ?c ?k; (case a => k_is); (case l => k_is); (case c => k_is); (case k => k_is)))
      (case h_inverse => (refine' CU.def_in KX G CU.bd_inverse ?a ?l ?c ?k; (case a => k_is); (case l => k_is); (case c => k_is); (case k => k_is)))
      (case h_chinese => (refine' CU.def_in KX G CU.bd_chinese ?a ?l ?c ?k; (case a => k_is); (case l => k_is); (case c => k_is); (case k => k_is)))
      (case h_solved => (refine' CU.def_in KX G CU.bd_solved ?a ?l ?c ?k; (case a => k_is); (case l => k_is); (case c => k_is); (case k => k_is)))
      (case h_united => (refine' CU.def_in KX G CU.bd_united ?a ?l ?c ?k; (case a => k_is); (case l => k_is); (case c => k_is); (case k => k_is)))
      (case h_point_classes => (refine' CU.def_in KX G CU.bd_point_classes ?a ?l ?c ?k; (case a => k_is); (case l => k_is); (case c => k_is); (case k => k_is)))
      (case h_meeting_classes => (refine' CU.def_in KX G CU.bd_meeting_classes ?a ?l ?c ?k; (case a => k_is); (case l => k_is); (case c => k_is); (case k => k_is)))
      (case h_crossed => (refine' CU.def_in KX G CU.bd_crossed ?a ?l ?c ?k; (case a => k_is); (case l => k_is); (case c => k_is); (case k => k_is)))
      (case h_is_class => (refine' CU.def_in KX G CU.bd_is_class ?a ?l ?c ?k; (case a => k_is); (case l => k_is); (case c => k_is); (case k => k_is)))
      (case h_are_apart => (refine' CU.def_in KX G CU.bd_are_apart ?a ?l ?c ?k; (case a => k_is); (case l => k_is); (case c => k_is); (case k => k_is)))
      (case h_part_classes => (refine' CU.def_in KX G CU.bd_part_classes ?a ?l ?c ?k; (case a => k_is); (case l => k_is); (case c => k_is); (case k => k_is)))
      (case h_at_point => (refine' CU.def_in KX G CU.bd_at_point ?a ?l ?c ?k; (case a => k_is); (case l => k_is); (case c => k_is); (case k => k_is)))
      (case h_meetings => (refine' CU.def_in KX G CU.bd_meetings ?a ?l ?c ?k; (case a => k_is); (case l => k_is); (case c => k_is); (case k => k_is)))
      (case h_fall_of => (refine' CU.def_in KX G CU.bd_fall_of ?a ?l ?c ?k; (case a => k_is); (case l => k_is); (case c => k_is); (case k => k_is)))
      (case h_starts_from => (refine' CU.def_in KX G CU.bd_starts_from ?a ?l ?c ?k; (case a => k_is); (case l => k_is); (case c => k_is); (case k => k_is)))
      (case h_pocket_aims => (refine' CU.def_in KX G CU.bd_pocket_aims ?a ?l ?c ?k; (case a => k_is); (case l => k_is); (case c => k_is); (case k => k_is)))
      (case h_meeting_aims => (refine' CU.def_in KX G CU.bd_meeting_aims ?a ?l ?c ?k; (case a => k_is); (case l => k_is); (case c => k_is); (case k => k_is)))
      (case h_in_order => (refine' CU.def_in KX G CU.bd_in_order ?a ?l ?c ?k; (case a => k_is); (case l => k_is); (case c => k_is); (case k => k_is)))
      (case h_order_aims => (refine' CU.def_in KX G CU.bd_order_aims ?a ?l ?c ?k; (case a => k_is); (case l => k_is); (case c => k_is); (case k => k_is)))
      (case h__law_row => (refine' CU.def_in KX G CU.bd__law_row ?a ?l ?c ?k; (case a => k_is); (case l => k_is); (case c => k_is); (case k => k_is)))
      (case h__law_numbers => (refine' CU.def_in KX G CU.bd__law_numbers ?a ?l ?c ?k; (case a => k_is); (case l => k_is); (case c => k_is); (case k => k_is)))
      (case h__law_table => (refine' CU.def_in KX G CU.bd__law_table ?a ?l ?c ?k; (case a => k_is); (case l => k_is); (case c => k_is); (case k => k_is)))
      (case h__law_ball => (refine' CU.def_in KX G CU.bd__law_ball ?a ?l ?c ?k; (case a => k_is); (case l => k_is); (case c => k_is); (case k => k_is)))
      (case h__law_walk => (refine' CU.def_in KX G CU.bd__law_walk ?a ?l ?c ?k; (case a => k_is); (case l => k_is); (case c => k_is); (case k => k_is)))
      (case h__law_fall => (refine' CU.def_in KX G CU.bd__law_fall ?a ?l ?c ?k; (case a => k_is); (case l => k_is); (case c => k_is); (case k => k_is)))
      (case h__law_great => (refine' CU.def_in KX G CU.bd__law_great ?a ?l ?c ?k; (case a => k_is); (case l => k_is); (case c => k_is); (case k => k_is)))
      (case h__law_minutes => (refine' CU.def_in KX G CU.bd__law_minutes ?a ?l ?c ?k; (case a => k_is); (case l => k_is); (case c => k_is); (case k => k_is)))
      (case h__law_point => (refine' CU.def_in KX G CU.bd__law_point ?a ?l ?c ?k; (case a => k_is); (case l => k_is); (case c => k_is); (case k => k_is)))
      (case h__law_directions => (refine' CU.def_in KX G CU.bd__law_directions ?a ?l ?c ?k; (case a => k_is); (case l => k_is); (case c => k_is); (case k => k_is)))
      (case h__law_times => (refine' CU.def_in KX G CU.bd__law_times ?a ?l ?c ?k; (case a => k_is); (case l => k_is); (case c => k_is); (case k => k_is)))
      (case h__law_in_order => (refine' CU.def_in KX G CU.bd__law_in_order ?a ?l ?c ?k; (case a => k_is); (case l => k_is); (case c => k_is); (case k => k_is)))
      (case h__law_due => (refine' CU.def_in KX G CU.bd__law_due ?a ?l ?c ?k; (case a => k_is); (case l => k_is); (case c => k_is); (case k => k_is)))
      (case h__law_first_meeting => (refine' CU.def_in KX G CU.bd__law_first_meeting ?a ?l ?c ?k; (case a => k_is); (case l => k_is); (case c => k_is); (case k => k_is)))
      (case h__law_met => (refine' CU.def_in KX G CU.bd__law_met ?a ?l ?c ?k; (case a => k_is); (case l => k_is); (case c => k_is); (case k => k_is)))
      (case h_law => (refine' CU.def_in KX G CU.bd_law ?a ?l ?c ?k; (case a => k_is); (case l => k_is); (case c => k_is); (case k => k_is)))
      (case g_Table => k_is)
      (case pg_Table => k_is)
      (case hd_Table => k_is)
      (case po_Table => k_is)
      (case sa_Table => k_is)
      (case h_Table_init => (refine' CU.mk_tab ?m ?kc ?a ?i ?l ?lT ?c ?k; (case m => k_is); (case kc => k_is); (case a => k_is); (case i => k_is); (case l => k_is); (case lT => k_is); (case c => k_is); (case k => k_is)))
      (case h_Table_is_point => (refine' CU.met_in CU.bd_Table_is_point ?a ?i ?l ?c ?k; (case a => k_is); (case i => k_is); (case l => k_is); (case c => k_is); (case k => k_is)))
      (case h_Table_check_point => (refine' CU.met_in CU.bd_Table_check_point ?a ?i ?l ?c ?k; (case a => k_is); (case i => k_is); (case l => k_is); (case c => k_is); (case k => k_is)))
      (case h_Table_is_pocket => (refine' CU.met_in CU.bd_Table_is_pocket ?a ?i ?l ?c ?k; (case a => k_is); (case i => k_is); (case l => k_is); (case c => k_is); (case k => k_is)))
      (case n_Table_width => k_is)
      (case n_Table_height => k_is)
      (case n_Table_pockets => k_is)
      (case g_Times => k_is)
      (case pg_Times => k_is)
      (case hd_Times => k_is)
      (case po_Times => k_is)
      (case sa_Times => k_is)
      (case h_Times_init => (refine' CU.mk_in CU.bd_Times_init ?m ?kc ?a ?i ?l ?c ?k; (case m => k_is); (case kc => k_is); (case a => k_is); (case i => k_is); (case l => k_is); (case c => k_is); (case k => k_is)))
      (case h_Times_is_within => (refine' CU.met_in CU.bd_Times_is_within ?a ?i ?l ?c ?k; (case a => k_is); (case i => k_is); (case l => k_is); (case c => k_is); (case k => k_is)))
      (case h_Times_next_from => (refine' CU.met_in CU.bd_Times_next_from ?a ?i ?l ?c ?k; (case a => k_is); (case i => k_is); (case l => k_is); (case c => k_is); (case k => k_is)))
      (case n_Times_start => k_is)
      (case n_Times_end => k_is)
      (case n_Times_classes => k_is)
      (case m_MOST => k_is)
      (case m_MOST_POCKETS => k_is)
      (case m_MOST_NAME_CHARS => k_is)
      (case m_MOST_CLASSES => k_is)
      (case m_NAME_CHARS => k_is)
      (case m_WHOLE => k_is)
      (case l_WHOLE => k_is)
      (case l_W0 => k_is)
      (case m_DIRECTIONS => k_is)
      (case l_DIRECTIONS => k_is)
      (case l_D1 => k_is)
      (case l_D2 => k_is)
      (case l_D3 => k_is)
      (case l_D4 => k_is)
      (case l_D5 => k_is)
      (case l_D6 => k_is)
      (case l_D7 => k_is)
      (case l_D8 => k_is)
      (case m_gcd => k_is)
      (case z_len => k_is)
      (case z_all => k_is)
      (case z_tuple => k_is)
      (case z_enumerate => k_is)
      (case z_isinstance => k_is)
      (case z_list => k_is)
      (case z_int => k_is)
      (case z_sorted => k_is)
      (case z_min => k_is)
      (case z_max => k_is)
      (case z_abs => k_is)
      (case z_range => k_is)
