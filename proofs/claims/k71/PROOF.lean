import PyProof.Rows.All
import Wide.All
import OpenK.AllK
import Wide.FinOn
import PyProof.EqAt
import PyProof.EqKinds
import PyProof.TupleCall
import HandS.ForMost
import HandS.Deep
import HandS.TupAny
import HandS.Walk
import HandS.Exc
import HandS.ExcOwn
import HandS.WordsExc
import HandS.Defaults
import HandS.ExcInit
import HandS.ExcIs
import HandS.TryMany
import KE.KExcSuper
import HandS.IsInst
import HandS.List
import HandS.AnyAll
import PyProof.ReprRoads
import HandS.Ends
import PySem.Challenge.RW_skypasses_k71_looks_put_in_and_out
set_option Elab.async false
set_option linter.all false
set_option maxRecDepth 100000
set_option maxHeartbeats 4000000
/-! data layer 1: values as data, a heap in two parts (G: shared and never changed, the rest of H: owned), judgements -/
namespace DL
open PySem L2

abbrev D := PyData

/-! ### data in heaps -/
theorem same_seqT {K : PySem.W.Frag} {H H' : Hp} {a : Addr} {xs : List V} (e : Same H H') (h : SqT K H a xs) : SqT K H' a xs := by
  rcases h with (h | ⟨o, h⟩) | h
  · exact .inl (.inl (e _ _ h))
  · exact .inl (.inr ⟨o, e _ _ h⟩)
  · exact .inr h
mutual
/-- v stands for the data d: lists are tracked ones -/
inductive Rp (K : PySem.W.Frag) (H : Hp) : V → D → Prop
  | non : Rp K H .non .none
  | bl (b : Bool) : Rp K H (.bl b) (.bool b)
  | int (i : Int) : Rp K H (.int i) (.int i)
  | str (x : Str) : Rp K H (.str x) (.str x)
  | lst {a : Addr} {xs : List V} {ds : List D} : H a = some (.lst xs) → RpAll K H xs ds → Rp K H (.ref a) (.list ds)
  | tup {a : Addr} {xs : List V} {ds : List D} : SqT K H a xs → RpAll K H xs ds → Rp K H (.ref a) (.tuple ds)
inductive RpAll (K : PySem.W.Frag) (H : Hp) : List V → List D → Prop
  | nil : RpAll K H [] []
  | cons {v : V} {vs : List V} {d : D} {ds : List D} : Rp K H v d → RpAll K H vs ds → RpAll K H (v :: vs) (d :: ds)
end
mutual
theorem Rp.dp {K : PySem.W.Frag} {H : Hp} : ∀ {v : V} {d : D}, Rp K H v d → Dp K H v d
  | _, _, .non => .non
  | _, _, .bl b => .bl b
  | _, _, .int i => .int i
  | _, _, .str x => .str x
  | _, _, .lst h r => .lst (SqL.of h) (RpAll.dp r)
  | _, _, .tup h r => .tup h (RpAll.dp r)
theorem RpAll.dp {K : PySem.W.Frag} {H : Hp} : ∀ {vs : List V} {ds : List D}, RpAll K H vs ds → DpAll K H vs ds
  | _, _, .nil => .nil
  | _, _, .cons h r => .cons (Rp.dp h) (RpAll.dp r)
end
mutual
theorem rp_mono {K : PySem.W.Frag} {H H' : Hp} (e : Same H H') : ∀ {v : V} {d : D}, Rp K H v d → Rp K H' v d
  | _, _, .non => .non
  | _, _, .bl b => .bl b
  | _, _, .int i => .int i
  | _, _, .str x => .str x
  | _, _, .lst h r => .lst (e _ _ h) (rpAll_mono e r)
  | _, _, .tup h r => .tup (same_seqT e h) (rpAll_mono e r)
theorem rpAll_mono {K : PySem.W.Frag} {H H' : Hp} (e : Same H H') : ∀ {vs : List V} {ds : List D}, RpAll K H vs ds → RpAll K H' vs ds
  | _, _, .nil => .nil
  | _, _, .cons h r => .cons (rp_mono e h) (rpAll_mono e r)
end
theorem rpAll_length {K : PySem.W.Frag} {H : Hp} : ∀ {vs : List V} {ds : List D}, RpAll K H vs ds → vs.length = ds.length
  | _, _, .nil => rfl
  | _, _, .cons _ r => congrArg Nat.succ (rpAll_length r)
theorem rpAll_get {K : PySem.W.Frag} {H : Hp} : ∀ {vs : List V} {ds : List D} {i : Nat} {d : D}, RpAll K H vs ds → ds[i]? = some d → ∃ v, vs[i]? = some v ∧ Rp K H v d
  | _, _, _, _, .nil, e => by simp at e
  | _, _, 0, _, .cons h _, e => by
    simp at e
    subst e
    exact ⟨_, rfl, h⟩
  | _, _, i + 1, _, .cons _ r, e => by
    obtain ⟨v, h1, h2⟩ := rpAll_get (i := i) r (by simpa using e)
    exact ⟨v, by simpa using h1, h2⟩
theorem rpAll_app {K : PySem.W.Frag} {H : Hp} : ∀ {vs ws : List V} {ds es : List D}, RpAll K H vs ds → RpAll K H ws es → RpAll K H (vs ++ ws) (ds ++ es)
  | _, _, _, _, .nil, s => s
  | _, _, _, _, .cons h r, s => .cons h (rpAll_app r s)
theorem rpAll_one {K : PySem.W.Frag} {H : Hp} {v : V} {d : D} (h : Rp K H v d) : RpAll K H [v] [d] := .cons h .nil
theorem rpAll_take {K : PySem.W.Frag} {H : Hp} : ∀ {vs : List V} {ds : List D} (n : Nat), RpAll K H vs ds → RpAll K H (vs.take n) (ds.take n)
  | _, _, 0, _ => .nil
  | _, _, _ + 1, .nil => .nil
  | _, _, n + 1, .cons h r => .cons h (rpAll_take n r)
theorem rpAll_drop {K : PySem.W.Frag} {H : Hp} : ∀ {vs : List V} {ds : List D} (n : Nat), RpAll K H vs ds → RpAll K H (vs.drop n) (ds.drop n)
  | _, _, 0, r => r
  | _, _, _ + 1, .nil => .nil
  | _, _, n + 1, .cons _ r => rpAll_drop n r
theorem rpAll_set {K : PySem.W.Frag} {H : Hp} {v : V} {d : D} (h : Rp K H v d) : ∀ {vs : List V} {ds : List D} (i : Nat), RpAll K H vs ds → RpAll K H (vs.set i v) (ds.set i d)
  | _, _, _, .nil => .nil
  | _, _, 0, .cons _ r => .cons h r
  | _, _, i + 1, .cons q r => .cons q (rpAll_set h i r)
theorem rpAll_ints {K : PySem.W.Frag} {H : Hp} : ∀ {vs : List V} {ns : List Int}, RpAll K H vs (ns.map PyData.int) → vs = ns.map V.int
  | _, [], h => by cases h; rfl
  | _, n :: ns, h => by
    cases h with
    | cons h r =>
      cases h
      rw [rpAll_ints r]; rfl
theorem rpAll_bls {K : PySem.W.Frag} {H : Hp} : ∀ {vs : List V} {ns : List Bool}, RpAll K H vs (ns.map PyData.bool) → vs = ns.map V.bl
  | _, [], h => by cases h; rfl
  | _, n :: ns, h => by
    cases h with
    | cons h r =>
      cases h
      rw [rpAll_bls r]; rfl
theorem ints_rpAll {K : PySem.W.Frag} {H : Hp} : ∀ {ns : List Int}, RpAll K H (ns.map V.int) (ns.map PyData.int)
  | [] => .nil
  | n :: ns => .cons (.int n) ints_rpAll

/-! ### data without lists: told apart from whatever changes -/
mutual
def imm : D → Bool
  | .none => true
  | .bool _ => true
  | .int _ => true
  | .str _ => true
  | .tuple xs => imms xs
  | .list _ => false
  | .dict _ => false
def imms : List D → Bool
  | [] => true
  | x :: xs => imm x && imms xs
end
/-- G with all tuples of H -/
def plusT (G H : Hp) : Hp := fun a => match G a with
  | some o => some o
  | none => match H a with
    | some (.tup xs) => some (.tup xs)
    | some (.frz o (.tup xs)) => some (.frz o (.tup xs))
    | _ => none
def isT : HO → Prop
  | .tup _ => True
  | .frz _ (.tup _) => True
  | _ => False
theorem plusT_left (G H : Hp) : Same G (plusT G H) := fun a o h => by unfold plusT; rw [h]
theorem plusT_right {G H : Hp} (s : Same G H) : Same (plusT G H) H := fun a o h => by
  unfold plusT at h
  cases hg : G a with
  | some u =>
    rw [hg] at h
    cases h
    exact s a o hg
  | none =>
    rw [hg] at h
    dsimp only at h
    split at h
    · next e => cases h; exact e
    · next e => cases h; exact e
    · cases h
theorem plusT_T {G H : Hp} {a : Addr} {o : HO} (s : Same G H) (h : H a = some o) (t : isT o) : plusT G H a = some o := by
  unfold plusT
  cases hg : G a with
  | some u =>
    have e := s a u hg
    rw [h] at e
    cases e
    rfl
  | none =>
    rw [h]
    cases o with
    | tup xs => rfl
    | frz ob u =>
      cases u with
      | tup xs => rfl
      | _ => exact t.elim
    | _ => exact t.elim
theorem plusT_none {G H : Hp} {a : Addr} {o : HO} (h : H a = some o) (t : ¬ isT o) (g : G a = none) : plusT G H a = none := by
  unfold plusT
  rw [g, h]
  cases o with
  | tup xs => exact absurd trivial t
  | frz ob u =>
    cases u with
    | tup xs => exact absurd trivial t
    | _ => rfl
  | _ => rfl
mutual
theorem rp_imm {K : PySem.W.Frag} {G H : Hp} (s : Same G H) : ∀ {v : V} {d : D}, imm d = true → Rp K H v d → Rp K (plusT G H) v d
  | _, _, _, .non => .non
  | _, _, _, .bl b => .bl b
  | _, _, _, .int i => .int i
  | _, _, _, .str x => .str x
  | _, _, i, .lst h r => by simp [imm] at i
  | _, _, i, .tup h r => by
    refine .tup ?_ (rpAll_imm s (by simpa [imm] using i) r)
    rcases h with (h | ⟨o, h⟩) | h
    · exact .inl (.inl (plusT_T s h trivial))
    · exact .inl (.inr ⟨o, plusT_T s h trivial⟩)
    · exact .inr h
theorem rpAll_imm {K : PySem.W.Frag} {G H : Hp} (s : Same G H) : ∀ {vs : List V} {ds : List D}, imms ds = true → RpAll K H vs ds → RpAll K (plusT G H) vs ds
  | _, _, _, .nil => .nil
  | _, _, i, .cons h r => by
    simp only [imms, Bool.and_eq_true] at i
    exact .cons (rp_imm s i.1 h) (rpAll_imm s i.2 r)
end

/-! ### what a value is, with what it owns -/
/-- a part of a tuple: shared data, or a list of its own -/
inductive Cm where
  | pu (d : D)
  | ls (ds : List D)
inductive RV where
  /-- shared data -/
  | pu (d : D)
  /-- a list that nobody else holds -/
  | ls (ds : List D)
  /-- a tuple with parts that nobody else holds -/
  | tp (cs : List Cm)
  /-- a list that is read alone (the script) -/
  | fz (ds : List D)
def Cm.flat : Cm → D
  | .pu d => d
  | .ls ds => .list ds
def RV.flat : RV → D
  | .pu d => d
  | .ls ds => .list ds
  | .tp cs => .tuple (cs.map Cm.flat)
  | .fz ds => .list ds
def RV.dat : RV → Bool
  | .fz _ => false
  | _ => true

section
variable (K : PySem.W.Frag) (G H : Hp)
def RepL (v : V) (ds : List D) (f : List Addr) : Prop := ∃ p vs, v = .ref p ∧ f = [p] ∧ H p = some (.lst vs) ∧ G p = none ∧ RpAll K G vs ds
def RepC (v : V) (c : Cm) (f : List Addr) : Prop := match c with
  | .pu d => f = [] ∧ Rp K G v d
  | .ls ds => RepL K G H v ds f
inductive RepCs : List V → List Cm → List Addr → Prop
  | nil : RepCs [] [] []
  | cons {v : V} {c : Cm} {f : List Addr} {vs : List V} {cs : List Cm} {g : List Addr} : RepC K G H v c f → RepCs vs cs g → RepCs (v :: vs) (c :: cs) (f ++ g)
def RepR (v : V) (r : RV) (f : List Addr) : Prop := match r with
  | .pu d => f = [] ∧ Rp K G v d
  | .ls ds => RepL K G H v ds f
  | .tp cs => ∃ t vs, v = .ref t ∧ G t = some (.tup vs) ∧ RepCs K G H vs cs f
  | .fz ds => f = [] ∧ ∃ a vs, v = .ref a ∧ SqL K G a vs ∧ RpAll K G vs ds
inductive RepRs : List V → List RV → List Addr → Prop
  | nil : RepRs [] [] []
  | cons {v : V} {r : RV} {f : List Addr} {vs : List V} {rs : List RV} {g : List Addr} : RepR K G H v r f → RepRs vs rs g → RepRs (v :: vs) (r :: rs) (f ++ g)
/-- the slots of a frame: none: nothing is known -/
inductive Sl : List (Option RV) → St → List Addr → Prop
  | nil : Sl [] [] []
  | any {o : Option V} {ρ : List (Option RV)} {σ : St} {F : List Addr} : Sl ρ σ F → Sl (none :: ρ) (o :: σ) F
  | has {v : V} {r : RV} {f : List Addr} {ρ : List (Option RV)} {σ : St} {F : List Addr} : RepR K G H v r f → Sl ρ σ F → Sl (some r :: ρ) (some v :: σ) (f ++ F)
end

/-- what stood in H stands; what was not shared is not shared (tuples apart) -/
structure Tr (G H G' H' : Hp) : Prop where
  gg : Same G G'
  gh : Same G' H'
  keep : ∀ a o, H a = some o → H' a = some o
  far : ∀ a o, H a = some o → ¬ isT o → G a = none → G' a = none
/-- .. but for the addresses of F; F': what is owned behind it -/
structure TrS (F : List Addr) (G H : Hp) (F' : List Addr) (G' H' : Hp) : Prop where
  gg : Same G G'
  gh : Same G' H'
  keep : ∀ a o, H a = some o → a ∉ F → H' a = some o
  far : ∀ a o, H a = some o → a ∉ F → ¬ isT o → G a = none → G' a = none
  own : ∀ p ∈ F', p ∈ F ∨ H p = none

theorem Tr.refl {G H : Hp} (s : Same G H) : Tr G H G H := ⟨Same.refl _, s, fun _ _ h => h, fun _ _ _ _ h => h⟩
theorem Tr.trans {G H G1 H1 G2 H2 : Hp} (a : Tr G H G1 H1) (b : Tr G1 H1 G2 H2) : Tr G H G2 H2 :=
  ⟨a.gg.trans b.gg, b.gh, fun x o h => b.keep x o (a.keep x o h), fun x o h t g => b.far x o (a.keep x o h) t (a.far x o h t g)⟩
theorem Tr.back {G H G' H' : Hp} (a : Tr G H G' H') {p : Addr} (h : H' p = none) : H p = none := by
  cases e : H p with
  | none => rfl
  | some o => rw [a.keep p o e] at h; cases h
theorem TrS.back {F F' : List Addr} {G H G' H' : Hp} (a : TrS F G H F' G' H') {p : Addr} (h : H' p = none) : p ∈ F ∨ H p = none := by
  cases e : H p with
  | none => exact .inr rfl
  | some o =>
    by_cases hp : p ∈ F
    · exact .inl hp
    · rw [a.keep p o e hp] at h; cases h
theorem Tr.toS {F F' : List Addr} {G H G' H' : Hp} (a : Tr G H G' H') (o : ∀ p ∈ F', p ∈ F ∨ H p = none) : TrS F G H F' G' H' :=
  ⟨a.gg, a.gh, fun x u h _ => a.keep x u h, fun x u h _ t g => a.far x u h t g, o⟩
theorem TrS.refl {F : List Addr} {G H : Hp} (s : Same G H) : TrS F G H F G H := (Tr.refl s).toS fun _ h => .inl h
theorem TrS.trans {F F1 F2 : List Addr} {G H G1 H1 G2 H2 : Hp} (a : TrS F G H F1 G1 H1) (b : TrS F1 G1 H1 F2 G2 H2) : TrS F G H F2 G2 H2 := by
  have nf : ∀ x o, H x = some o → x ∉ F → x ∉ F1 := fun x o h hx z => by
    rcases a.own x z with q | q
    · exact hx q
    · rw [h] at q; cases q
  refine ⟨a.gg.trans b.gg, b.gh, fun x o h hx => b.keep x o (a.keep x o h hx) (nf x o h hx), fun x o h hx t g => b.far x o (a.keep x o h hx) (nf x o h hx) t (a.far x o h hx t g), fun p hp => ?_⟩
  rcases b.own p hp with q | q
  · exact a.own p q
  · exact a.back q
/-- what one owns may be forgotten, or more be told of it -/
theorem TrS.mono {F F1 F' : List Addr} {G H G' H' : Hp} (a : TrS F G H F' G' H') (h : ∀ p ∈ F1, p ∈ F' ∨ p ∈ F ∨ H p = none) : TrS F G H F1 G' H' :=
  ⟨a.gg, a.gh, a.keep, a.far, fun p hp => by
    rcases h p hp with q | q
    · exact a.own p q
    · exact q⟩

section
variable {K : PySem.W.Frag} {G H G' H' : Hp}
theorem RepL.tr (t : Tr G H G' H') {v : V} {ds : List D} {f : List Addr} (h : RepL K G H v ds f) : RepL K G' H' v ds f := by
  obtain ⟨p, vs, e1, e2, e3, e4, e5⟩ := h
  exact ⟨p, vs, e1, e2, t.keep _ _ e3, t.far _ _ e3 (fun z => z) e4, rpAll_mono t.gg e5⟩
theorem RepC.tr (t : Tr G H G' H') : ∀ {v : V} {c : Cm} {f : List Addr}, RepC K G H v c f → RepC K G' H' v c f
  | _, .pu _, _, h => ⟨h.1, rp_mono t.gg h.2⟩
  | _, .ls _, _, h => RepL.tr t h
theorem RepCs.tr (t : Tr G H G' H') {vs : List V} {cs : List Cm} {f : List Addr} (h : RepCs K G H vs cs f) : RepCs K G' H' vs cs f := by
  induction h with
  | nil => exact .nil
  | cons h _ ih => exact .cons (h.tr t) ih
theorem RepR.tr (t : Tr G H G' H') : ∀ {v : V} {r : RV} {f : List Addr}, RepR K G H v r f → RepR K G' H' v r f
  | _, .pu _, _, h => ⟨h.1, rp_mono t.gg h.2⟩
  | _, .ls _, _, h => RepL.tr t h
  | _, .tp _, _, h => by
    obtain ⟨a, vs, e1, e2, e3⟩ := h
    exact ⟨a, vs, e1, t.gg _ _ e2, e3.tr t⟩
  | _, .fz _, _, h => by
    obtain ⟨e0, a, vs, e1, e2, e3⟩ := h
    exact ⟨e0, a, vs, e1, t.gg.seq e2, rpAll_mono t.gg e3⟩
theorem RepRs.tr (t : Tr G H G' H') {vs : List V} {rs : List RV} {f : List Addr} (h : RepRs K G H vs rs f) : RepRs K G' H' vs rs f := by
  induction h with
  | nil => exact .nil
  | cons h _ ih => exact .cons (h.tr t) ih
theorem Sl.tr (t : Tr G H G' H') {ρ : List (Option RV)} {σ : St} {F : List Addr} (h : Sl K G H ρ σ F) : Sl K G' H' ρ σ F := by
  induction h with
  | nil => exact .nil
  | any _ ih => exact .any ih
  | has h _ ih => exact .has (h.tr t) ih
/-- what is owned stands in H -/
theorem RepL.at {v : V} {ds : List D} {f : List Addr} (h : RepL K G H v ds f) : ∀ p ∈ f, (∃ xs, H p = some (.lst xs)) ∧ G p = none := by
  obtain ⟨p, vs, e1, e2, e3, e4, e5⟩ := h
  subst e2
  intro q hq
  have e : q = p := by simpa using hq
  subst e
  exact ⟨⟨_, e3⟩, e4⟩
theorem RepC.at : ∀ {v : V} {c : Cm} {f : List Addr}, RepC K G H v c f → ∀ p ∈ f, (∃ xs, H p = some (.lst xs)) ∧ G p = none
  | _, .pu _, _, h => fun p hp => by rw [h.1] at hp; cases hp
  | _, .ls _, _, h => RepL.at h
theorem RepCs.at {vs : List V} {cs : List Cm} {f : List Addr} (h : RepCs K G H vs cs f) : ∀ p ∈ f, (∃ xs, H p = some (.lst xs)) ∧ G p = none := by
  induction h with
  | nil => exact fun p hp => by cases hp
  | cons h _ ih => exact fun p hp => (List.mem_append.mp hp).elim (h.at p) (ih p)
theorem RepR.at : ∀ {v : V} {r : RV} {f : List Addr}, RepR K G H v r f → ∀ p ∈ f, (∃ xs, H p = some (.lst xs)) ∧ G p = none
  | _, .pu _, _, h => fun p hp => by rw [h.1] at hp; cases hp
  | _, .ls _, _, h => RepL.at h
  | _, .tp _, _, h => by
    obtain ⟨a, vs, e1, e2, e3⟩ := h
    exact e3.at
  | _, .fz _, _, h => fun p hp => by rw [h.1] at hp; cases hp
theorem RepRs.at {vs : List V} {rs : List RV} {f : List Addr} (h : RepRs K G H vs rs f) : ∀ p ∈ f, (∃ xs, H p = some (.lst xs)) ∧ G p = none := by
  induction h with
  | nil => exact fun p hp => by cases hp
  | cons h _ ih => exact fun p hp => (List.mem_append.mp hp).elim (h.at p) (ih p)
theorem Sl.at {ρ : List (Option RV)} {σ : St} {F : List Addr} (h : Sl K G H ρ σ F) : ∀ p ∈ F, (∃ xs, H p = some (.lst xs)) ∧ G p = none := by
  induction h with
  | nil => exact fun p hp => by cases hp
  | any _ ih => exact ih
  | has h _ ih => exact fun p hp => (List.mem_append.mp hp).elim (h.at p) (ih p)
/-- as data in the whole heap -/
theorem RepL.dp (s : Same G H) {v : V} {ds : List D} {f : List Addr} (h : RepL K G H v ds f) : Rp K H v (.list ds) := by
  obtain ⟨p, vs, e1, e2, e3, e4, e5⟩ := h
  subst e1
  exact .lst e3 (rpAll_mono s e5)
theorem RepC.dp (s : Same G H) : ∀ {v : V} {c : Cm} {f : List Addr}, RepC K G H v c f → Rp K H v c.flat
  | _, .pu _, _, h => rp_mono s h.2
  | _, .ls _, _, h => RepL.dp s h
theorem RepCs.dp (s : Same G H) {vs : List V} {cs : List Cm} {f : List Addr} (h : RepCs K G H vs cs f) : RpAll K H vs (cs.map Cm.flat) := by
  induction h with
  | nil => exact .nil
  | cons h _ ih => exact .cons (h.dp s) ih
theorem RepR.dp (s : Same G H) : ∀ {v : V} {r : RV} {f : List Addr}, RepR K G H v r f → r.dat = true → Rp K H v r.flat
  | _, .pu _, _, h, _ => rp_mono s h.2
  | _, .ls _, _, h, _ => RepL.dp s h
  | _, .tp _, _, h, _ => by
    obtain ⟨a, vs, e1, e2, e3⟩ := h
    subst e1
    exact .tup (SqT.of (s _ _ e2)) (e3.dp s)
  | _, .fz _, _, _, z => by cases z
theorem Sl.get {ρ : List (Option RV)} {σ : St} {F : List Addr} (h : Sl K G H ρ σ F) : ∀ {i : Nat} {r : RV}, ρ[i]? = some (some r) → ∃ v f, σ[i]? = some (some v) ∧ RepR K G H v r f ∧ (∀ p ∈ f, p ∈ F) ∧ (F.Nodup → f.Nodup) := by
  induction h with
  | nil => intro i r e; simp at e
  | any _ ih =>
    intro i r e
    cases i with
    | zero => simp at e
    | succ i =>
      obtain ⟨v, f, h1, h2, h3, h4⟩ := ih (i := i) (r := r) (by simpa using e)
      exact ⟨v, f, by simpa using h1, h2, h3, h4⟩
  | has h _ ih =>
    intro i r e
    cases i with
    | zero =>
      simp at e
      subst e
      exact ⟨_, _, rfl, h, fun p hp => List.mem_append_left _ hp, fun nd => (List.nodup_append.mp nd).1⟩
    | succ i =>
      obtain ⟨v, f, h1, h2, h3, h4⟩ := ih (i := i) (r := r) (by simpa using e)
      exact ⟨v, f, by simpa using h1, h2, fun p hp => List.mem_append_right _ (h3 p hp), fun nd => h4 (List.nodup_append.mp nd).2.1⟩
theorem Sl.len {ρ : List (Option RV)} {σ : St} {F : List Addr} (h : Sl K G H ρ σ F) : ρ.length = σ.length := by
  induction h with
  | nil => rfl
  | any _ ih => exact congrArg Nat.succ ih
  | has _ _ ih => exact congrArg Nat.succ ih
/-- a slot is stored -/
theorem Sl.set {ρ : List (Option RV)} {σ : St} {F : List Addr} (h : Sl K G H ρ σ F) : ∀ {i : Nat} {v : V} {r : RV} {f : List Addr}, i < ρ.length → RepR K G H v r f → F.Nodup → f.Nodup → (∀ p ∈ f, p ∉ F) →
    ∃ F', Sl K G H (ρ.set i (some r)) (σ.set i (some v)) F' ∧ F'.Nodup ∧ ∀ p ∈ F', p ∈ f ∨ p ∈ F := by
  induction h with
  | nil => intro i v r f hi; simp at hi
  | @any o ρ σ F h ih =>
    intro i v r f hi hr nF nf dj
    cases i with
    | zero => exact ⟨_, .has hr h, List.nodup_append.mpr ⟨nf, nF, fun a ha b hb e => dj a ha (e ▸ hb)⟩, fun p hp => List.mem_append.mp hp⟩
    | succ i =>
      obtain ⟨F', h1, h2, h3⟩ := ih (i := i) (by simpa using hi) hr nF nf dj
      exact ⟨F', .any h1, h2, h3⟩
  | @has v0 r0 f0 ρ σ F h0 h ih =>
    intro i v r f hi hr nF nf dj
    obtain ⟨n1, n2, n3⟩ := List.nodup_append.mp nF
    cases i with
    | zero => exact ⟨_, .has hr h, List.nodup_append.mpr ⟨nf, n2, fun a ha b hb e => dj a ha (List.mem_append_right _ (e ▸ hb))⟩, fun p hp => (List.mem_append.mp hp).imp id (List.mem_append_right _)⟩
    | succ i =>
      obtain ⟨F', h1, h2, h3⟩ := ih (i := i) (by simpa using hi) hr n2 nf fun p hp z => dj p hp (List.mem_append_right _ z)
      refine ⟨_, .has h0 h1, List.nodup_append.mpr ⟨n1, h2, fun a ha b hb e => ?_⟩, fun p hp => ?_⟩
      · subst e
        rcases h3 a hb with q | q
        · exact dj a q (List.mem_append_left _ ha)
        · exact n3 a ha a q rfl
      · rcases List.mem_append.mp hp with q | q
        · exact .inr (List.mem_append_left _ q)
        · exact (h3 p q).imp id (List.mem_append_right _)
end

/-- ρ' knows no more than ρ -/
inductive Fgt : List (Option RV) → List (Option RV) → Prop
  | nil : Fgt [] []
  | any {o : Option RV} {ρ ρ' : List (Option RV)} : Fgt ρ ρ' → Fgt (o :: ρ) (none :: ρ')
  | same {o : Option RV} {ρ ρ' : List (Option RV)} : Fgt ρ ρ' → Fgt (o :: ρ) (o :: ρ')
theorem Fgt.refl : ∀ ρ, Fgt ρ ρ
  | [] => .nil
  | _ :: ρ => .same (Fgt.refl ρ)
theorem Sl.fgt {K : PySem.W.Frag} {G H : Hp} {ρ ρ' : List (Option RV)} (w : Fgt ρ ρ') : ∀ {σ : St} {F : List Addr}, Sl K G H ρ σ F → ∃ F', Sl K G H ρ' σ F' ∧ (F.Nodup → F'.Nodup) ∧ ∀ p ∈ F', p ∈ F := by
  induction w with
  | nil => intro σ F h; cases h; exact ⟨_, .nil, id, fun _ h => h⟩
  | any _ ih =>
    intro σ F h
    cases h with
    | any h => obtain ⟨F', a, b, c⟩ := ih h; exact ⟨F', .any a, b, c⟩
    | has r h =>
      obtain ⟨F', a, b, c⟩ := ih h
      exact ⟨F', .any a, fun n => b (List.nodup_append.mp n).2.1, fun p hp => List.mem_append_right _ (c p hp)⟩
  | same _ ih =>
    intro σ F h
    cases h with
    | any h => obtain ⟨F', a, b, c⟩ := ih h; exact ⟨F', .any a, b, c⟩
    | has r h =>
      obtain ⟨F', a, b, c⟩ := ih h
      refine ⟨_, .has r a, fun n => ?_, fun p hp => (List.mem_append.mp hp).elim (List.mem_append_left _) fun q => List.mem_append_right _ (c p q)⟩
      obtain ⟨n1, n2, n3⟩ := List.nodup_append.mp n
      exact List.nodup_append.mpr ⟨n1, b n2, fun x hx y hy => n3 x hx y (c y hy)⟩

/-- a frame's slots and the heap -/
structure Okk (K : PySem.W.Frag) (ρ : List (Option RV)) (σ : St) (G H : Hp) (F : List Addr) : Prop where
  sub : Same G H
  sl : Sl K G H ρ σ F
  nd : F.Nodup
section
variable {K : PySem.W.Frag} {G H G' H' : Hp} {ρ ρ' : List (Option RV)} {σ : St} {F : List Addr}
theorem Okk.tr (k : Okk K ρ σ G H F) (t : Tr G H G' H') : Okk K ρ σ G' H' F := ⟨t.gh, k.sl.tr t, k.nd⟩
theorem Okk.fgt (k : Okk K ρ σ G H F) (w : Fgt ρ ρ') : ∃ F', Okk K ρ' σ G H F' ∧ TrS F G H F' G H := by
  obtain ⟨F', a, b, c⟩ := k.sl.fgt w
  exact ⟨F', ⟨k.sub, a, b k.nd⟩, (Tr.refl k.sub).toS fun p hp => .inl (c p hp)⟩
theorem Okk.fresh (k : Okk K ρ σ G H F) {p : Addr} (h : H p = none) : p ∉ F := fun z => by
  obtain ⟨⟨xs, e⟩, _⟩ := k.sl.at p z
  rw [h] at e; cases e
/-- a value with fresh parts is stored -/
theorem Okk.store (k : Okk K ρ σ G H F) (t : Tr G H G' H') {i : Nat} {v : V} {r : RV} {f : List Addr} (hi : i < ρ.length) (hr : RepR K G' H' v r f) (nf : f.Nodup) (fr : ∀ p ∈ f, H p = none) :
    ∃ F', Okk K (ρ.set i (some r)) (σ.set i (some v)) G' H' F' ∧ TrS F G H F' G' H' := by
  obtain ⟨F', a, b, c⟩ := (k.sl.tr t).set hi hr k.nd nf fun p hp => k.fresh (fr p hp)
  exact ⟨F', ⟨t.gh, a, b⟩, t.toS fun p hp => (c p hp).symm.imp id (fr p)⟩
end
end DL

/-! data layer 2: judgements of expressions -/
namespace DL
open PySem L2

/-- what a context must have -/
class Cok (k : outParam Nat) (X : Cx) : Prop where
  room : Room k X.A
  calm : X.calm = true
  nd : X.N.Nodup
theorem Cok.hu {k : Nat} (X : Cx) [c : Cok k X] : X.A.units + 65 < cLine := by have := c.room.un; omega
theorem Cok.hu64 {k : Nat} (X : Cx) [c : Cok k X] : X.A.units + 64 < cLine := by have := c.room.un; omega

/-! ### canonical readings -/
section
variable (X : Cx)
def cE (e : Expr) : TE := fun σ H Q => ∀ pins s, Inv X pins σ H s → wpAny (model X.prog X.w) X.A (eval e X.env) (EP X pins σ Q) X.xe s
def cT (e : Expr) : TT := fun σ H Q => ∀ pins s, Inv X pins σ H s → wpAny (model X.prog X.w) X.A (isTrue e X.env (eval e X.env)) (TP X pins σ Q) X.xe s
def cW (e : Expr) : TT := fun σ H Q => ∀ wh pins s, Inv X pins σ H s → wpAny (model X.prog X.w) X.A (isTrue e X.env wh) (TP X pins σ Q) X.xe s
def cA (es : List Expr) : TA := fun σ H Q => ∀ pos pins s, Inv X pins σ H s → wpAny (model X.prog X.w) X.A (spliced (backTo pos (starEach es X.env))) (AP X pins σ Q) X.xe s
end
section
variable {X : Cx} {e : Expr} {es : List Expr} {σ : St} {H : Hp}
theorem pe_c : PE X e (cE X e) := ⟨fun pins s _ _ _ I h => h pins s I⟩
theorem pt_c : PT X e (cT X e) := ⟨fun pins s _ _ _ I h => h pins s I⟩
theorem pw_c : PW X e (cW X e) := ⟨fun wh pins s _ _ _ I h => h wh pins s I⟩
theorem pa_c : PA X es (cA X es) := ⟨fun pos pins s _ _ _ I h => h pos pins s I⟩
theorem cE_of {t : TE} {Q : VK} (p : PE X e t) (h : t σ H Q) : cE X e σ H Q := fun pins s I => p.run pins s σ H Q I h
theorem cT_of {t : TT} {Q : Bool → Hp → Prop} (p : PT X e t) (h : t σ H Q) : cT X e σ H Q := fun pins s I => p.run pins s σ H Q I h
theorem cW_of {t : TT} {Q : Bool → Hp → Prop} (p : PW X e t) (h : t σ H Q) : cW X e σ H Q := fun wh pins s I => p.run wh pins s σ H Q I h
theorem cA_of {t : TA} {Q : List V → Hp → Prop} (p : PA X es t) (h : t σ H Q) : cA X es σ H Q := fun pos pins s I => p.run pos pins s σ H Q I h
end

/-! ### the judgements -/
section
variable (X : Cx) (ρ : List (Option RV))
/-- e gives r; what r owns is new -/
def Ev (e : Expr) (r : RV) : Prop := ∀ σ G H F (Q : VK), Okk X.K ρ σ G H F →
  (∀ v G' H' f, Tr G H G' H' → RepR X.K G' H' v r f → f.Nodup → (∀ p ∈ f, H p = none) → Q v H') → cE X e σ H Q
/-- e gives a value that now reads as d -/
def EvP (e : Expr) (d : D) : Prop := ∀ σ G H F (Q : VK), Okk X.K ρ σ G H F → (∀ v G' H', Tr G H G' H' → Rp X.K H' v d → Q v H') → cE X e σ H Q
/-- e gives a list that holds shared data -/
def EvL (e : Expr) (ds : List D) : Prop := ∀ σ G H F (Q : VK), Okk X.K ρ σ G H F →
  (∀ p vs G' H', Tr G H G' H' → H' p = some (.lst vs) → RpAll X.K G' vs ds → Q (.ref p) H') → cE X e σ H Q
def EvT (e : Expr) (b : Bool) : Prop := ∀ σ G H F (Q : Bool → Hp → Prop), Okk X.K ρ σ G H F → (∀ G' H', Tr G H G' H' → Q b H') → cT X e σ H Q
def EvW (e : Expr) (b : Bool) : Prop := ∀ σ G H F (Q : Bool → Hp → Prop), Okk X.K ρ σ G H F → (∀ G' H', Tr G H G' H' → Q b H') → cW X e σ H Q
def EvAs (es : List Expr) (rs : List RV) : Prop := ∀ σ G H F (Q : List V → Hp → Prop), Okk X.K ρ σ G H F →
  (∀ vs G' H' f, Tr G H G' H' → RepRs X.K G' H' vs rs f → f.Nodup → (∀ p ∈ f, H p = none) → Q vs H') → cA X es σ H Q
def EvAP (es : List Expr) (ds : List D) : Prop := ∀ σ G H F (Q : List V → Hp → Prop), Okk X.K ρ σ G H F →
  (∀ vs G' H', Tr G H G' H' → RpAll X.K H' vs ds → Q vs H') → cA X es σ H Q
end

/-! ### new objects -/
theorem same_upd {G H : Hp} {p : Addr} {o : HO} (s : Same G H) : Same (upd G p o) (upd H p o) := fun a u h => by
  by_cases e : a = p
  · subst e; rw [upd_same] at h ⊢; exact h
  · rw [upd_ne e] at h ⊢; exact s a u h
theorem same_new {G : Hp} {p : Addr} {o : HO} (n : G p = none) : Same G (upd G p o) := fun a u h => by
  rw [upd_ne (ne_of_none h n)]; exact h
theorem sub_none {G H : Hp} {p : Addr} (s : Same G H) (n : H p = none) : G p = none := s.free n
/-- a new object, shared at once -/
theorem Tr.new {G H : Hp} {p : Addr} {o : HO} (s : Same G H) (n : H p = none) : Tr G H (upd G p o) (upd H p o) :=
  ⟨same_new (sub_none s n), same_upd s, fun a u h => by rw [upd_ne (ne_of_none h n)]; exact h, fun a u h _ g => by rw [upd_ne (ne_of_none h n)]; exact g⟩
/-- a new object, owned -/
theorem Tr.newO {G H : Hp} {p : Addr} {o : HO} (s : Same G H) (n : H p = none) : Tr G H G (upd H p o) :=
  ⟨Same.refl _, fun a u h => by rw [upd_ne (ne_of_none (s a u h) n)]; exact s a u h, fun a u h => by rw [upd_ne (ne_of_none h n)]; exact h, fun a u h _ g => g⟩
/-- a new owned object is shared -/
theorem Tr.share {G H G' H' : Hp} {p : Addr} {o : HO} (t : Tr G H G' H') (n : H p = none) (e : H' p = some o) : Tr G H (upd G' p o) H' := by
  have sub : Same (upd G' p o) H' := fun a u h => by
    by_cases q : a = p
    · subst q; rw [upd_same] at h; rw [e]; exact h
    · rw [upd_ne q] at h; exact t.gh a u h
  refine ⟨fun a u h => ?_, sub, t.keep, fun a u h i g => by rw [upd_ne (ne_of_none h n)]; exact t.far a u h i g⟩
  by_cases q : a = p
  · subst q
    have := t.gh a u (t.gg a u h)
    rw [e] at this
    rw [upd_same]; exact this
  · rw [upd_ne q]; exact t.gg a u h
/-- all tuples are shared -/
theorem Tr.plusT {G H G' H' : Hp} (t : Tr G H G' H') : Tr G H (plusT G' H') H' :=
  ⟨t.gg.trans (plusT_left _ _), plusT_right t.gh, t.keep, fun a u h i g => plusT_none (t.keep a u h) i (t.far a u h i g)⟩

section
variable {X : Cx} {ρ : List (Option RV)} {e : Expr} {es : List Expr}
/-- weaker readings -/
theorem Ev.p {r : RV} (h : Ev X ρ e r) (hd : r.dat = true := by rfl) : EvP X ρ e r.flat := fun σ G H F Q k q => h σ G H F Q k fun v G' H' f t rp _ _ => q v G' H' t (rp.dp t.gh hd)
theorem Ev.pp {d : D} (h : Ev X ρ e (.pu d)) : EvP X ρ e d := h.p
theorem Ev.l {r : RV} {ds : List D} (h : Ev X ρ e r) (hd : r = .ls ds ∨ r = .pu (.list ds)) : EvL X ρ e ds := fun σ G H F Q k q => h σ G H F Q k fun v G' H' f t rp _ _ => by
  rcases hd with rfl | rfl
  · obtain ⟨p, vs, e1, e2, e3, e4, e5⟩ := rp
    subst e1
    exact q p vs G' H' t e3 e5
  · obtain ⟨_, rp⟩ := rp
    cases rp with
    | lst h1 h2 => exact q _ _ G' H' t (t.gh _ _ h1) h2
theorem Ev.ll {ds : List D} (h : Ev X ρ e (.ls ds)) : EvL X ρ e ds := h.l (.inl rfl)
theorem Ev.lp {ds : List D} (h : Ev X ρ e (.pu (.list ds))) : EvL X ρ e ds := h.l (.inr rfl)
theorem EvL.p {ds : List D} (h : EvL X ρ e ds) : EvP X ρ e (.list ds) := fun σ G H F Q k q => h σ G H F Q k fun p vs G' H' t h1 h2 => q _ G' H' t (.lst h1 (rpAll_mono t.gh h2))
/-- data without lists are as good as shared -/
theorem EvP.i {d : D} (h : EvP X ρ e d) (i : imm d = true) : Ev X ρ e (.pu d) := fun σ G H F Q k q => h σ G H F Q k fun v G' H' t rp =>
  q v _ H' [] t.plusT ⟨rfl, rp_imm t.gh i rp⟩ (by simp) (by simp)
/-- a new list is shared -/
theorem Ev.fz {ds : List D} (h : Ev X ρ e (.ls ds)) : Ev X ρ e (.pu (.list ds)) := fun σ G H F Q k q => h σ G H F Q k fun v G' H' f t rp nd fr => by
  obtain ⟨p, vs, e1, e2, e3, e4, e5⟩ := rp
  subst e1 e2
  have n : H p = none := fr p (by simp)
  have t' := t.share n e3
  exact q _ _ H' [] t' ⟨rfl, .lst upd_same (rpAll_mono (same_new (e4)) e5)⟩ (by simp) (by simp)
theorem Ev.is {r r' : RV} (h : Ev X ρ e r) (q : r = r') : Ev X ρ e r' := q ▸ h
theorem EvP.is {d d' : D} (h : EvP X ρ e d) (q : d = d') : EvP X ρ e d' := q ▸ h
theorem EvT.is {d d' : Bool} (h : EvT X ρ e d) (q : d = d') : EvT X ρ e d' := q ▸ h
theorem EvL.is {d d' : List D} (h : EvL X ρ e d) (q : d = d') : EvL X ρ e d' := q ▸ h

/-! ### names, constants -/
theorem ev_v {x : Str} {pos : Pos} (i : Nat) {d : D} (hr : ρ[i]? = some (some (.pu d)) := by rfl) (hN : X.N[i]? = some x := by rfl) (hv : Vis X.env.scope x := by first | exact Or.inl rfl | exact Or.inr (Or.inl rfl) | exact Or.inr (Or.inr rfl))
    (hd : (x == ("__debug__" : Str)) = false := by decide) (hcd : (x == ("__classdict__" : Str)) = false := by decide) : Ev X ρ (.Name x pos) (.pu d) := fun σ G H F Q k q => by
  obtain ⟨v, f, h1, h2, h3, h4⟩ := k.sl.get hr
  obtain ⟨e1, h2⟩ := h2
  refine cE_of (pe_var hN hv hd hcd) ⟨v, h1, q v G H [] (Tr.refl k.sub) ⟨rfl, h2⟩ (by simp) (by simp)⟩
/-- any name, as it reads now -/
theorem evp_v {x : Str} {pos : Pos} (i : Nat) {r : RV} (hr : ρ[i]? = some (some r) := by rfl) (hdt : r.dat = true := by rfl) (hN : X.N[i]? = some x := by rfl) (hv : Vis X.env.scope x := by first | exact Or.inl rfl | exact Or.inr (Or.inl rfl) | exact Or.inr (Or.inr rfl))
    (hd : (x == ("__debug__" : Str)) = false := by decide) (hcd : (x == ("__classdict__" : Str)) = false := by decide) : EvP X ρ (.Name x pos) r.flat := fun σ G H F Q k q => by
  obtain ⟨v, f, h1, h2, h3, h4⟩ := k.sl.get hr
  exact cE_of (pe_var hN hv hd hcd) ⟨v, h1, q v G H (Tr.refl k.sub) (h2.dp k.sub hdt)⟩
theorem evl_v {x : Str} {pos : Pos} (i : Nat) {ds : List D} (hr : ρ[i]? = some (some (.ls ds)) := by rfl) (hN : X.N[i]? = some x := by rfl) (hv : Vis X.env.scope x := by first | exact Or.inl rfl | exact Or.inr (Or.inl rfl) | exact Or.inr (Or.inr rfl))
    (hd : (x == ("__debug__" : Str)) = false := by decide) (hcd : (x == ("__classdict__" : Str)) = false := by decide) : EvL X ρ (.Name x pos) ds := fun σ G H F Q k q => by
  obtain ⟨v, f, h1, h2, h3, h4⟩ := k.sl.get hr
  obtain ⟨p, vs, e1, e2, e3, e4, e5⟩ := h2
  subst e1
  exact cE_of (pe_var hN hv hd hcd) ⟨_, h1, q p vs G H (Tr.refl k.sub) e3 e5⟩
theorem ev_const {t : TE} {d : D} {v : V} (h : PE X e (tC v)) (r : ∀ G, Rp X.K G v d) : Ev X ρ e (.pu d) := fun σ G H F Q k q => cE_of h (q v G H [] (Tr.refl k.sub) ⟨rfl, r G⟩ (by simp) (by simp))
theorem ev_int {i : Int} {j pos} : Ev X ρ (.Constant (.int i) j pos) (.pu (.int i)) := ev_const (t := fun _ _ _ => True) pe_int fun _ => .int i
theorem ev_bool {b : Bool} {j pos} : Ev X ρ (.Constant (.bool b) j pos) (.pu (.bool b)) := ev_const (t := fun _ _ _ => True) pe_bl fun _ => .bl b
theorem ev_none {j pos} : Ev X ρ (.Constant .none j pos) (.pu .none) := ev_const (t := fun _ _ _ => True) pe_non fun _ => .non
theorem ev_str {x j pos} : Ev X ρ (.Constant (.str x) j pos) (.pu (.str x)) := ev_const (t := fun _ _ _ => True) pe_str fun _ => .str x
/-- a module's constant -/
theorem ev_glob {x : Str} {v : V} {d : D} {u : Value} {pos : Pos} (hm : X.mg x = some u) (r : RelV v u) (rd : ∀ G, Rp X.K G v d) (hg : Gl X x := by rfl) (hd : (x == ("__debug__" : Str)) = false := by decide) : Ev X ρ (.Name x pos) (.pu d) :=
  ev_const (t := fun _ _ _ => True) (pe_glob hg hm r hd) rd

/-! ### operations on values that make nothing -/
/-- the operation f on what reads as x and y gives what reads as z, and leaves the heap -/
def Rel2 (X : Cx) (f : Value → Value → Sem Value) (x y z : D) : Prop := ∃ r : R2, OpR X f r ∧ ∀ v u H (Q : VK), Rp X.K H v x → Rp X.K H u y → (∀ w, Rp X.K H w z → Q w H) → r v u H Q
variable {a b c : Expr} {x y z w : D} {pos : Pos}
theorem evp_bin {op : Operator} (ha : EvP X ρ a x) (hb : EvP X ρ b y) (h : Rel2 X (binaryOp op) x y z) : EvP X ρ (.BinOp a op b pos) z := fun σ G H F Q k q => by
  obtain ⟨r, ho, hr⟩ := h
  refine cE_of (pe_op ho pe_c pe_c) ?_
  refine ha σ G H F _ k fun v G1 H1 t1 r1 => ?_
  refine hb σ G1 H1 F _ (k.tr t1) fun u G2 H2 t2 r2 => ?_
  exact hr v u H2 Q (rp_mono t2.keep r1) r2 fun w rw => q w G2 H2 (t1.trans t2) rw
theorem evp_cmp {op : CmpOp} (ha : EvP X ρ a x) (hb : EvP X ρ b y) (h : Rel2 X (compareOp op) x y z) (hm : behindInMarks op b = false) : EvP X ρ (.Compare a [op] [b] pos) z := fun σ G H F Q k q => by
  obtain ⟨r, ho, hr⟩ := h
  refine cE_of (pe_cmpR ho pe_c pe_c hm) ?_
  refine ha σ G H F _ k fun v G1 H1 t1 r1 => ?_
  refine hb σ G1 H1 F _ (k.tr t1) fun u G2 H2 t2 r2 => ?_
  exact hr v u H2 Q (rp_mono t2.keep r1) r2 fun w rw => q w G2 H2 (t1.trans t2) rw
theorem rp_bool {K : PySem.W.Frag} {H : Hp} {v : V} {t : Bool} (h : Rp K H v (.bool t)) : v = .bl t := by cases h; rfl
theorem rp_int {K : PySem.W.Frag} {H : Hp} {v : V} {t : Int} (h : Rp K H v (.int t)) : v = .int t := by cases h; rfl
theorem rp_str {K : PySem.W.Frag} {H : Hp} {v : V} {t : Str} (h : Rp K H v (.str t)) : v = .str t := by cases h; rfl
theorem rp_none {K : PySem.W.Frag} {H : Hp} {v : V} (h : Rp K H v .none) : v = .non := by cases h; rfl
theorem evt_cmp {op : CmpOp} {t : Bool} (ha : EvP X ρ a x) (hb : EvP X ρ b y) (h : Rel2 X (compareOp op) x y (.bool t)) (hm : behindInMarks op b = false) : EvT X ρ (.Compare a [op] [b] pos) t := fun σ G H F Q k q => by
  obtain ⟨r, ho, hr⟩ := h
  refine cT_of (pt_cmpR ho pe_c pe_c hm) ?_
  refine ha σ G H F _ k fun v G1 H1 t1 r1 => ?_
  refine hb σ G1 H1 F _ (k.tr t1) fun u G2 H2 t2 r2 => ?_
  exact hr v u H2 _ (rp_mono t2.keep r1) r2 fun w rw => ⟨t, rp_bool rw, q G2 H2 (t1.trans t2)⟩
theorem evt_chain {op op' : CmpOp} {t t' : Bool} (ha : EvP X ρ a x) (hb : EvP X ρ b y) (h : Rel2 X (compareOp op) x y (.bool t)) (hc : t = true → EvP X ρ c w) (h' : t = true → Rel2 X (compareOp op') y w (.bool t'))
    (h0 : Rel2 X (compareOp op') y w (.bool t')) (hm : lastMarks [op, op'] [b, c] = false := by with_unfolding_all rfl) : EvT X ρ (.Compare a [op, op'] [b, c] pos) (t && t') := fun σ G H F Q k q => by
  obtain ⟨r, ho, hr⟩ := h
  obtain ⟨r', ho', hr'⟩ := h0
  refine cT_of (pt_chain ho ho' pe_c pe_c pe_c hm) ?_
  refine ha σ G H F _ k fun v G1 H1 t1 r1 => ?_
  refine hb σ G1 H1 F _ (k.tr t1) fun u G2 H2 t2 r2 => ?_
  refine hr v u H2 _ (rp_mono t2.keep r1) r2 fun w rw => ⟨t, rp_bool rw, ?_⟩
  cases t with
  | false =>
    rw [if_neg Bool.false_ne_true]
    exact ⟨false, rfl, q G2 H2 (t1.trans t2)⟩
  | true =>
    rw [if_pos rfl]
    refine hc rfl σ G2 H2 F _ (k.tr (t1.trans t2)) fun u3 G3 H3 t3 r3 => ?_
    exact hr' u u3 H3 _ (rp_mono t3.keep r2) r3 fun w rw => ⟨t', rp_bool rw, q G3 H3 ((t1.trans t2).trans t3)⟩
theorem evp_chain {op op' : CmpOp} {t t' : Bool} (ha : EvP X ρ a x) (hb : EvP X ρ b y) (h : Rel2 X (compareOp op) x y (.bool t)) (hc : t = true → EvP X ρ c w)
    (h0 : Rel2 X (compareOp op') y w (.bool t')) (hm : lastMarks [op, op'] [b, c] = false := by with_unfolding_all rfl) : EvP X ρ (.Compare a [op, op'] [b, c] pos) (.bool (t && t')) := fun σ G H F Q k q => by
  obtain ⟨r, ho, hr⟩ := h
  obtain ⟨r', ho', hr'⟩ := h0
  refine cE_of (pe_chain ho ho' pe_c pe_c pe_c hm) ?_
  refine ha σ G H F _ k fun v G1 H1 t1 r1 => ?_
  refine hb σ G1 H1 F _ (k.tr t1) fun u G2 H2 t2 r2 => ?_
  refine hr v u H2 _ (rp_mono t2.keep r1) r2 fun w rw => ⟨t, rp_bool rw, ?_⟩
  cases t with
  | false =>
    rw [if_neg Bool.false_ne_true]
    exact q _ G2 H2 (t1.trans t2) (.bl false)
  | true =>
    rw [if_pos rfl]
    refine hc rfl σ G2 H2 F _ (k.tr (t1.trans t2)) fun u3 G3 H3 t3 r3 => ?_
    refine hr' u u3 H3 _ (rp_mono t3.keep r2) r3 fun w rw => ?_
    cases rp_bool rw
    exact q _ G3 H3 ((t1.trans t2).trans t3) (.bl t')
/-- ints -/
theorem rel_I {f : Value → Value → Sem Value} {C : Int → Int → Prop} {g : Int → Int → V} {i j : Int} {z : D} (ho : OpR X f (rI C g)) (hc : C i j) (hz : ∀ H, Rp X.K H (g i j) z) : Rel2 X f (.int i) (.int j) z :=
  ⟨_, ho, fun v u H Q r1 r2 q => ⟨i, j, rp_int r1, rp_int r2, hc, q _ (hz H)⟩⟩
theorem rel_I0 {f : Value → Value → Sem Value} {g : Int → Int → V} {i j : Int} {z : D} (ho : OpR X f (rI0 g)) (hz : ∀ H, Rp X.K H (g i j) z) : Rel2 X f (.int i) (.int j) z :=
  ⟨_, ho, fun v u H Q r1 r2 q => ⟨i, j, rp_int r1, rp_int r2, q _ (hz H)⟩⟩
variable {i j : Int}
theorem r_add : Rel2 X (binaryOp .Add) (.int i) (.int j) (.int (i + j)) := rel_I0 op_add fun _ => .int _
theorem r_sub : Rel2 X (binaryOp .Sub) (.int i) (.int j) (.int (i - j)) := rel_I0 op_sub fun _ => .int _
theorem r_mul (h : CMul i j) : Rel2 X (binaryOp .Mult) (.int i) (.int j) (.int (i * j)) := rel_I op_mul h fun _ => .int _
theorem r_fdiv (h : CDiv i j) : Rel2 X (binaryOp .FloorDiv) (.int i) (.int j) (.int (i / j)) := rel_I op_fdiv h fun _ => .int _
theorem r_mod (h : 0 < j) : Rel2 X (binaryOp .Mod) (.int i) (.int j) (.int (i % j)) := rel_I op_mod h fun _ => .int _
theorem r_pow (h : CPow i j) : Rel2 X (binaryOp .Pow) (.int i) (.int j) (.int (i ^ j.toNat)) := rel_I op_pow h fun _ => .int _
theorem r_lt : Rel2 X (compareOp .Lt) (.int i) (.int j) (.bool (decide (i < j))) := rel_I0 op_lt fun _ => .bl _
theorem r_le : Rel2 X (compareOp .LtE) (.int i) (.int j) (.bool (decide (i ≤ j))) := rel_I0 op_le fun _ => .bl _
theorem r_gt : Rel2 X (compareOp .Gt) (.int i) (.int j) (.bool (decide (j < i))) := rel_I0 op_gt fun _ => .bl _
theorem r_ge : Rel2 X (compareOp .GtE) (.int i) (.int j) (.bool (decide (j ≤ i))) := rel_I0 op_ge fun _ => .bl _
theorem r_eq {k : Nat} [Cok k X] (hx : SeqAt.shaped x = true) (hy : SeqAt.shaped y = true) : Rel2 X (compareOp .Eq) x y (.bool (PyData.eqv x y)) :=
  ⟨_, op_eqD (Cok.hu64 X), fun v u H Q r1 r2 q => ⟨x, y, r1.dp, r2.dp, hx, hy, q _ (.bl _)⟩⟩
theorem r_ne {k : Nat} [Cok k X] (hx : SeqAt.shaped x = true) (hy : SeqAt.shaped y = true) : Rel2 X (compareOp .NotEq) x y (.bool (!PyData.eqv x y)) :=
  ⟨_, op_neD (Cok.hu64 X), fun v u H Q r1 r2 q => ⟨x, y, r1.dp, r2.dp, hx, hy, q _ (.bl _)⟩⟩
theorem r_in {k : Nat} [Cok k X] {ds : List D} (hx : SeqAt.shaped x = true) (hy : SeqAt.shaped (.list ds) = true) : Rel2 X (compareOp .In) x (.list ds) (.bool (ds.any fun z => PyData.eqv z x)) :=
  ⟨_, op_inD (Cok.hu X), fun v u H Q r1 r2 q => ⟨x, ds, r1.dp, r2.dp, hx, hy, q _ (.bl _)⟩⟩
theorem r_notin {k : Nat} [Cok k X] {ds : List D} (hx : SeqAt.shaped x = true) (hy : SeqAt.shaped (.list ds) = true) : Rel2 X (compareOp .NotIn) x (.list ds) (.bool (!ds.any fun z => PyData.eqv z x)) :=
  ⟨_, op_notInD (Cok.hu X), fun v u H Q r1 r2 q => ⟨x, ds, r1.dp, r2.dp, hx, hy, q _ (.bl _)⟩⟩
def isN : D → Bool
  | .none => true
  | _ => false
theorem rp_isN {K : PySem.W.Frag} {H : Hp} {v : V} (h : Rp K H v x) : decide (v = V.non) = isN x := by
  cases h <;> simp [isN]
theorem r_is : Rel2 X (compareOp .Is) x .none (.bool (isN x)) :=
  ⟨_, op_isN, fun v u H Q r1 r2 q => ⟨rp_none r2, by rw [rp_isN r1]; exact q _ (.bl _)⟩⟩
theorem r_isnot : Rel2 X (compareOp .IsNot) x .none (.bool (!isN x)) :=
  ⟨_, op_notN, fun v u H Q r1 r2 q => ⟨rp_none r2, by rw [rp_isN r1]; exact q _ (.bl _)⟩⟩
/-- in, of flat items: also tuples -/
def flatD : D → Bool
  | .int _ => true
  | .str _ => true
  | _ => false
theorem rpAll_flat {K : PySem.W.Frag} {H : Hp} : ∀ {vs : List V} {ns : List Int}, RpAll K H vs (ns.map PyData.int) → vs = ns.map V.int := rpAll_ints
theorem inV_ints {n : Int} : ∀ {ns : List Int}, inV (.int n) (ns.map V.int) = ns.contains n
  | [] => rfl
  | m :: ns => by
    have ih := inV_ints (n := n) (ns := ns)
    unfold inV at ih ⊢
    rw [List.map_cons, List.any_cons, ih, List.contains_cons]
    congr 1
    show eqV (.int m) (.int n) = (n == m)
    have e : eqV (.int m) (.int n) = decide (m = n) := by first | rfl | (simp only [eqV]; exact dec_int) | (simp only [eqV]; exact dec_int.symm)
    rw [e, Bool.eq_iff_iff, decide_eq_true_iff, beq_iff_eq]
    exact eq_comm
theorem flat_ints : ∀ {ns : List Int}, (ns.map V.int).all flatV = true
  | [] => rfl
  | _ :: ns => flat_ints (ns := ns)
theorem r_inT {n : Int} {ns : List Int} : Rel2 X (compareOp .In) (.int n) (.tuple (ns.map PyData.int)) (.bool (ns.contains n)) :=
  ⟨_, op_in_seq, fun v u H Q r1 r2 q => by
    cases rp_int r1
    cases r2 with
    | tup h1 h2 =>
      cases rpAll_ints h2
      exact ⟨_, _, rfl, .inr h1, rfl, flat_ints, by rw [if_neg (by decide), inV_ints]; exact q _ (.bl _)⟩⟩
theorem r_notinT {n : Int} {ns : List Int} : Rel2 X (compareOp .NotIn) (.int n) (.tuple (ns.map PyData.int)) (.bool (!ns.contains n)) :=
  ⟨_, op_notIn_seq, fun v u H Q r1 r2 q => by
    cases rp_int r1
    cases r2 with
    | tup h1 h2 =>
      cases rpAll_ints h2
      exact ⟨_, _, rfl, .inr h1, rfl, flat_ints, by rw [if_pos rfl, inV_ints]; exact q _ (.bl _)⟩⟩

/-! ### unary, boolean -/
theorem evp_neg (ha : EvP X ρ a (.int i)) : EvP X ρ (.UnaryOp .USub a pos) (.int (-i)) := fun σ G H F Q k q => by
  refine cE_of (pe_un un_neg pe_c) ?_
  refine ha σ G H F _ k fun v G1 H1 t1 r1 => ?_
  exact ⟨i, rp_int r1, q _ G1 H1 t1 (.int _)⟩
theorem evp_not {t : Bool} (ha : EvP X ρ a (.bool t)) : EvP X ρ (.UnaryOp .Not a pos) (.bool (!t)) := fun σ G H F Q k q => by
  refine cE_of (pe_not pe_c) ?_
  refine ha σ G H F _ k fun v G1 H1 t1 r1 => ?_
  exact ⟨t, rp_bool r1, q _ G1 H1 t1 (.bl _)⟩
theorem evt_not {t : Bool} (ha : EvT X ρ a t) : EvT X ρ (.UnaryOp .Not a pos) (!t) := fun σ G H F Q k q => by
  refine cT_of (pt_not pt_c) ?_
  exact ha σ G H F _ k fun G1 H1 t1 => q G1 H1 t1
variable {rest : List Expr}
theorem evw_and1 {t : Bool} (ha : EvT X ρ a t) : EvW X ρ (.BoolOp .And [a] pos) t := fun σ G H F Q k q => cW_of (pw_and1 pt_c) (ha σ G H F _ k q)
theorem evw_or1 {t : Bool} (ha : EvT X ρ a t) : EvW X ρ (.BoolOp .Or [a] pos) t := fun σ G H F Q k q => cW_of (pw_or1 pt_c) (ha σ G H F _ k q)
theorem evw_and {t t' : Bool} (ha : EvT X ρ a t) (hb : t = true → EvW X ρ (.BoolOp .And (b :: rest) pos) t') : EvW X ρ (.BoolOp .And (a :: b :: rest) pos) (t && t') := fun σ G H F Q k q => by
  refine cW_of (pw_and pt_c pw_c) ?_
  refine ha σ G H F _ k fun G1 H1 t1 => ?_
  cases t with
  | false => rw [if_neg Bool.false_ne_true]; exact q G1 H1 t1
  | true => rw [if_pos rfl]; exact hb rfl σ G1 H1 F _ (k.tr t1) fun G2 H2 t2 => q G2 H2 (t1.trans t2)
theorem evw_or {t t' : Bool} (ha : EvT X ρ a t) (hb : t = false → EvW X ρ (.BoolOp .Or (b :: rest) pos) t') : EvW X ρ (.BoolOp .Or (a :: b :: rest) pos) (t || t') := fun σ G H F Q k q => by
  refine cW_of (pw_or pt_c pw_c) ?_
  refine ha σ G H F _ k fun G1 H1 t1 => ?_
  cases t with
  | true => rw [if_pos rfl]; exact q G1 H1 t1
  | false => rw [if_neg Bool.false_ne_true]; exact hb rfl σ G1 H1 F _ (k.tr t1) fun G2 H2 t2 => q G2 H2 (t1.trans t2)
theorem EvW.t {t : Bool} (h : EvW X ρ e t) : EvT X ρ e t := fun σ G H F Q k q => cT_of (PW.pt pw_c) (h σ G H F Q k q)
theorem evp_one {op} (h : EvP X ρ a x) : EvP X ρ (.BoolOp op [a] pos) x := fun σ G H F Q k q => cE_of (pe_one pe_c) (h σ G H F Q k q)
theorem evp_and2 {t t' : Bool} (ha : EvP X ρ a (.bool t)) (hb : t = true → EvP X ρ (.BoolOp .And (b :: rest) pos) (.bool t')) : EvP X ρ (.BoolOp .And (a :: b :: rest) pos) (.bool (t && t')) := fun σ G H F Q k q => by
  refine cE_of (pe_and pe_c pe_c) ?_
  refine ha σ G H F _ k fun v G1 H1 t1 r1 => ⟨t, rp_bool r1, ?_⟩
  cases t with
  | false => rw [if_neg Bool.false_ne_true]; exact q _ G1 H1 t1 (.bl _)
  | true => rw [if_pos rfl]; exact hb rfl σ G1 H1 F _ (k.tr t1) fun v2 G2 H2 t2 r2 => q _ G2 H2 (t1.trans t2) r2
theorem evp_or2 {t t' : Bool} (ha : EvP X ρ a (.bool t)) (hb : t = false → EvP X ρ (.BoolOp .Or (b :: rest) pos) (.bool t')) : EvP X ρ (.BoolOp .Or (a :: b :: rest) pos) (.bool (t || t')) := fun σ G H F Q k q => by
  refine cE_of (pe_or pe_c pe_c) ?_
  refine ha σ G H F _ k fun v G1 H1 t1 r1 => ⟨t, rp_bool r1, ?_⟩
  cases t with
  | true => rw [if_pos rfl]; exact q _ G1 H1 t1 (.bl _)
  | false => rw [if_neg Bool.false_ne_true]; exact hb rfl σ G1 H1 F _ (k.tr t1) fun v2 G2 H2 t2 r2 => q _ G2 H2 (t1.trans t2) r2
/-- an expression that is a bool, as a test -/
theorem EvP.t {t : Bool} (h : EvP X ρ e (.bool t)) (he : ∀ whole, isTrue e X.env whole = (do let v ← whole; standAt e.pos; holding [v] (truthy v)) := by intro _; rfl) : EvT X ρ e t := fun σ G H F Q k q => by
  refine cT_of (pt_val pe_c he) ?_
  exact h σ G H F _ k fun v G1 H1 t1 r1 => ⟨t, rp_bool r1, q G1 H1 t1⟩
/-- the truth of data -/
def truD : D → Bool
  | .none => false
  | .bool b => b
  | .int i => i != 0
  | .str s => (s.length : Int) != 0
  | .list xs => !xs.isEmpty
  | .tuple xs => !xs.isEmpty
  | .dict xs => !xs.isEmpty
theorem rpAll_empty {K : PySem.W.Frag} {H : Hp} {vs : List V} {ds : List D} (h : RpAll K H vs ds) : vs.isEmpty = ds.isEmpty := by cases h <;> rfl
theorem tru_of {K : PySem.W.Frag} {H : Hp} {v : V} (h : Rp K H v x) (hs : ∀ s, x = .str s → s.length ≤ sizeLine) : TruV K v H (truD x) := by
  cases h with
  | non => rfl
  | bl b => rfl
  | int i => rfl
  | str s => exact ⟨hs s rfl, rfl⟩
  | lst h1 h2 => exact .inl ⟨_, SqL.of h1, by rw [rpAll_empty h2]; rfl⟩
  | tup h1 h2 => exact .inr (.inl ⟨_, h1, by rw [rpAll_empty h2]; rfl⟩)
theorem evt_tru (h : EvP X ρ e x) (hs : ∀ s, x = .str s → s.length ≤ sizeLine) (he : ∀ whole, isTrue e X.env whole = (do let v ← whole; standAt e.pos; holding [v] (truthy v)) := by intro _; rfl) : EvT X ρ e (truD x) := fun σ G H F Q k q => by
  refine cT_of (pt_truth pe_c he) ?_
  exact h σ G H F _ k fun v G1 H1 t1 r1 => ⟨truD x, tru_of r1 hs, q G1 H1 t1⟩
theorem evp_if {t : Bool} (hc : EvT X ρ c t) (ha : t = true → EvP X ρ a x) (hb : t = false → EvP X ρ b x) : EvP X ρ (.IfExp c a b pos) x := fun σ G H F Q k q => by
  refine cE_of (pe_ifExp pt_c pe_c pe_c) ?_
  refine hc σ G H F _ k fun G1 H1 t1 => ?_
  cases t with
  | true => rw [if_pos rfl]; exact ha rfl σ G1 H1 F _ (k.tr t1) fun v2 G2 H2 t2 r2 => q _ G2 H2 (t1.trans t2) r2
  | false => rw [if_neg Bool.false_ne_true]; exact hb rfl σ G1 H1 F _ (k.tr t1) fun v2 G2 H2 t2 r2 => q _ G2 H2 (t1.trans t2) r2
theorem ev_if {t : Bool} {r : RV} (hc : EvT X ρ c t) (ha : t = true → Ev X ρ a r) (hb : t = false → Ev X ρ b r) : Ev X ρ (.IfExp c a b pos) r := fun σ G H F Q k q => by
  refine cE_of (pe_ifExp pt_c pe_c pe_c) ?_
  refine hc σ G H F _ k fun G1 H1 t1 => ?_
  cases t with
  | true => rw [if_pos rfl]; exact ha rfl σ G1 H1 F _ (k.tr t1) fun v2 G2 H2 f t2 r2 nd fr => q _ G2 H2 f (t1.trans t2) r2 nd fun p hp => t1.back (fr p hp)
  | false => rw [if_neg Bool.false_ne_true]; exact hb rfl σ G1 H1 F _ (k.tr t1) fun v2 G2 H2 f t2 r2 nd fr => q _ G2 H2 f (t1.trans t2) r2 nd fun p hp => t1.back (fr p hp)

/-! ### places -/
theorem atI_rp {K : PySem.W.Frag} {H : Hp} {vs : List V} {ds : List D} {d : D} (h : RpAll K H vs ds) (e : atI ds i = some d) : ∃ v, atI vs i = some v ∧ Rp K H v d := by
  unfold atI at e ⊢
  rw [rpAll_length h]
  cases q : ixN ds.length i with
  | none => rw [q] at e; cases e
  | some j =>
    rw [q] at e
    obtain ⟨v, h1, h2⟩ := rpAll_get h (show ds[j]? = some d from e)
    exact ⟨v, h1, h2⟩
theorem ev_ixl {ds : List D} {d : D} (ha : EvL X ρ a ds) (hb : EvP X ρ b (.int i)) (h : atI ds i = some d) (hp : PlainIx b := by exact fun _ _ => rfl) : Ev X ρ (.Subscript a b pos) (.pu d) := fun σ G H F Q k q => by
  refine cE_of (pe_ix ix_list pe_c pe_c hp) ?_
  refine ha σ G H F _ k fun p vs G1 H1 t1 h1 h2 => ?_
  refine hb σ G1 H1 F _ (k.tr t1) fun u G2 H2 t2 r2 => ?_
  obtain ⟨v, e1, e2⟩ := atI_rp (rpAll_mono t2.gg h2) h
  exact ⟨p, vs, i, v, rfl, rp_int r2, SqL.of (t2.keep _ _ h1), e1, q v G2 H2 [] (t1.trans t2) ⟨rfl, e2⟩ (by simp) (by simp)⟩
theorem ev_ixt {ds : List D} {d : D} (ha : Ev X ρ a (.pu (.tuple ds))) (hb : EvP X ρ b (.int i)) (h : atI ds i = some d) (hp : PlainIx b := by exact fun _ _ => rfl) : Ev X ρ (.Subscript a b pos) (.pu d) := fun σ G H F Q k q => by
  refine cE_of (pe_ix ix_tup pe_c pe_c hp) ?_
  refine ha σ G H F _ k fun v0 G1 H1 f t1 rp _ _ => ?_
  obtain ⟨_, rp⟩ := rp
  refine hb σ G1 H1 F _ (k.tr t1) fun u G2 H2 t2 r2 => ?_
  cases rp with
  | tup h1 h2 =>
    obtain ⟨v, e1, e2⟩ := atI_rp (rpAll_mono t2.gg h2) h
    exact ⟨_, _, i, v, rfl, rp_int r2, same_seqT (fun x o hx => t2.gh x o (t2.gg x o hx)) h1, e1, q v G2 H2 [] (t1.trans t2) ⟨rfl, e2⟩ (by simp) (by simp)⟩
theorem evp_ixl {ds : List D} {d : D} (ha : EvP X ρ a (.list ds)) (hb : EvP X ρ b (.int i)) (h : atI ds i = some d) (hp : PlainIx b := by exact fun _ _ => rfl) : EvP X ρ (.Subscript a b pos) d := fun σ G H F Q k q => by
  refine cE_of (pe_ix ix_list pe_c pe_c hp) ?_
  refine ha σ G H F _ k fun v0 G1 H1 t1 rp => ?_
  refine hb σ G1 H1 F _ (k.tr t1) fun u G2 H2 t2 r2 => ?_
  cases rp with
  | lst h1 h2 =>
    obtain ⟨v, e1, e2⟩ := atI_rp (rpAll_mono t2.keep h2) h
    exact ⟨_, _, i, v, rfl, rp_int r2, SqL.of (t2.keep _ _ h1), e1, q v G2 H2 (t1.trans t2) e2⟩
theorem evp_ixt {ds : List D} {d : D} (ha : EvP X ρ a (.tuple ds)) (hb : EvP X ρ b (.int i)) (h : atI ds i = some d) (hp : PlainIx b := by exact fun _ _ => rfl) : EvP X ρ (.Subscript a b pos) d := fun σ G H F Q k q => by
  refine cE_of (pe_ix ix_tup pe_c pe_c hp) ?_
  refine ha σ G H F _ k fun v0 G1 H1 t1 rp => ?_
  refine hb σ G1 H1 F _ (k.tr t1) fun u G2 H2 t2 r2 => ?_
  cases rp with
  | tup h1 h2 =>
    obtain ⟨v, e1, e2⟩ := atI_rp (rpAll_mono t2.keep h2) h
    exact ⟨_, _, i, v, rfl, rp_int r2, same_seqT t2.keep h1, e1, q v G2 H2 (t1.trans t2) e2⟩

/-! ### argument lists, displays -/
def notStar : Expr → Bool
  | .Starred _ _ => false
  | _ => true
theorem star_cons {e : Expr} {es : List Expr} {env : Env} (h : notStar e = true) : starEach (e :: es) env = (false, eval e env) :: starEach es env := by
  cases e <;> first | rfl | (exact absurd (show false = true from h) Bool.false_ne_true)
theorem eva_nil : EvAs X ρ [] [] := fun σ G H F Q k q => cA_of pa_nil (q [] G H [] (Tr.refl k.sub) .nil (by simp) (by simp))
theorem eva_cons {r : RV} {rs : List RV} (ha : Ev X ρ e r) (hr : EvAs X ρ es rs) (hs : notStar e = true := by rfl) : EvAs X ρ (e :: es) (r :: rs) := fun σ G H F Q k q => by
  refine cA_of (pa_cons pe_c pa_c (star_cons hs)) ?_
  refine ha σ G H F _ k fun v G1 H1 f t1 r1 n1 fr1 => ?_
  refine hr σ G1 H1 F _ (k.tr t1) fun vs G2 H2 g t2 r2 n2 fr2 => ?_
  refine q (v :: vs) G2 H2 (f ++ g) (t1.trans t2) (.cons (r1.tr t2) r2) (List.nodup_append.mpr ⟨n1, n2, fun x hx y hy e => ?_⟩) fun p hp => ?_
  · subst e
    obtain ⟨⟨xs, z⟩, _⟩ := r1.at x hx
    rw [fr2 x hy] at z; cases z
  · rcases List.mem_append.mp hp with z | z
    · exact fr1 p z
    · exact t1.back (fr2 p z)
theorem evap_nil : EvAP X ρ [] [] := fun σ G H F Q k q => cA_of pa_nil (q [] G H (Tr.refl k.sub) .nil)
theorem evap_cons {d : D} {ds : List D} (ha : EvP X ρ e d) (hr : EvAP X ρ es ds) (hs : notStar e = true := by rfl) : EvAP X ρ (e :: es) (d :: ds) := fun σ G H F Q k q => by
  refine cA_of (pa_cons pe_c pa_c (star_cons hs)) ?_
  refine ha σ G H F _ k fun v G1 H1 t1 r1 => ?_
  exact hr σ G1 H1 F _ (k.tr t1) fun vs G2 H2 t2 r2 => q (v :: vs) G2 H2 (t1.trans t2) (.cons (rp_mono t2.keep r1) r2)
theorem rs_pu {K : PySem.W.Frag} {G H : Hp} : ∀ {vs : List V} {ds : List D} {f : List Addr}, RepRs K G H vs (ds.map RV.pu) f → f = [] ∧ RpAll K G vs ds
  | _, [], _, h => by cases h; exact ⟨rfl, .nil⟩
  | _, d :: ds, _, h => by
    cases h with
    | cons h1 h2 =>
      obtain ⟨e1, h1⟩ := h1
      obtain ⟨e2, h2⟩ := rs_pu (ds := ds) h2
      exact ⟨by rw [e1, e2]; rfl, .cons h1 h2⟩
def Cm.rv : Cm → RV
  | .pu d => .pu d
  | .ls ds => .ls ds
theorem rs_cm {K : PySem.W.Frag} {G H : Hp} : ∀ {vs : List V} {cs : List Cm} {f : List Addr}, RepRs K G H vs (cs.map Cm.rv) f → RepCs K G H vs cs f
  | _, [], _, h => by cases h; exact .nil
  | _, .pu d :: cs, _, h => by
    cases h with
    | cons h1 h2 => exact .cons h1 (rs_cm h2)
  | _, .ls d :: cs, _, h => by
    cases h with
    | cons h1 h2 => exact .cons h1 (rs_cm h2)
theorem RepRs.len {K : PySem.W.Frag} {G H : Hp} {vs : List V} {rs : List RV} {f : List Addr} (h : RepRs K G H vs rs f) : vs.length = rs.length := by
  induction h with
  | nil => rfl
  | cons _ _ ih => exact congrArg Nat.succ ih
/-- a tuple of shared data -/
theorem ev_tup {x1} {ds : List D} (h : EvAs X ρ es (ds.map RV.pu)) (hz : ds.length ≤ sizeLine := by decide) : Ev X ρ (.Tuple es x1 pos) (.pu (.tuple ds)) := fun σ G H F Q k q => by
  refine cE_of (pe_tup pa_c) ?_
  refine h σ G H F _ k fun vs G1 H1 f t1 r1 n1 fr1 => ?_
  obtain ⟨e, r1⟩ := rs_pu r1
  refine ⟨by rw [rpAll_length r1]; exact hz, fun p hp => ?_⟩
  have t2 := Tr.new (o := .tup vs) t1.gh hp
  exact q _ _ _ [] (t1.trans t2) ⟨rfl, .tup (SqT.of upd_same) (rpAll_mono t2.gg r1)⟩ (by simp) (by simp)
/-- .. with parts of its own -/
theorem ev_tupO {x1} {cs : List Cm} (h : EvAs X ρ es (cs.map Cm.rv)) (hz : cs.length ≤ sizeLine := by decide) : Ev X ρ (.Tuple es x1 pos) (.tp cs) := fun σ G H F Q k q => by
  refine cE_of (pe_tup pa_c) ?_
  refine h σ G H F _ k fun vs G1 H1 f t1 r1 n1 fr1 => ?_
  refine ⟨by rw [r1.len, List.length_map]; exact hz, fun p hp => ?_⟩
  have t2 := Tr.new (o := .tup vs) t1.gh hp
  exact q _ _ _ f (t1.trans t2) ⟨p, vs, rfl, upd_same, (rs_cm r1).tr t2⟩ n1 fr1
theorem ev_lst {ds : List D} (h : EvAs X ρ es (ds.map RV.pu)) (hz : ds.length ≤ sizeLine := by decide) : Ev X ρ (.List es pos) (.ls ds) := fun σ G H F Q k q => by
  refine cE_of (pe_lst pa_c) ?_
  refine h σ G H F _ k fun vs G1 H1 f t1 r1 n1 fr1 => ?_
  obtain ⟨e, r1⟩ := rs_pu r1
  refine ⟨by rw [rpAll_length r1]; exact hz, fun p hp => ?_⟩
  have t2 := Tr.newO (o := .lst vs) t1.gh hp
  exact q _ _ _ [p] (t1.trans t2) ⟨p, vs, rfl, rfl, upd_same, sub_none t1.gh hp, rpAll_mono t2.gg r1⟩ (by simp) fun z hz => by
    have e : z = p := by simpa using hz
    subst e
    exact t1.back hp

/-! ### lists and tuples put together, cut -/
theorem ev_catl {xs ys : List D} (ha : EvL X ρ a xs) (hb : EvL X ρ b ys) (hz : xs.length + ys.length ≤ sizeLine) : Ev X ρ (.BinOp a .Add b pos) (.ls (xs ++ ys)) := fun σ G H F Q k q => by
  refine cE_of (pe_op op_cat pe_c pe_c) ?_
  refine ha σ G H F _ k fun p vs G1 H1 t1 h1 h2 => ?_
  refine hb σ G1 H1 F _ (k.tr t1) fun u ws G2 H2 t2 h3 h4 => ?_
  refine ⟨p, u, vs, ws, rfl, rfl, t2.keep _ _ h1, h3, by rw [rpAll_length h2, rpAll_length h4]; exact hz, fun z hz => ?_⟩
  have t3 := Tr.newO (o := .lst (vs ++ ws)) t2.gh hz
  exact q _ _ _ [z] ((t1.trans t2).trans t3) ⟨z, _, rfl, rfl, upd_same, sub_none t2.gh hz, rpAll_app (rpAll_mono t2.gg h2) h4⟩ (by simp) fun y hy => by
    have e : y = z := by simpa using hy
    subst e
    exact (t1.trans t2).back hz
theorem ev_catt {xs ys : List D} (ha : Ev X ρ a (.pu (.tuple xs))) (hb : Ev X ρ b (.pu (.tuple ys))) (hz : xs.length + ys.length ≤ sizeLine) : Ev X ρ (.BinOp a .Add b pos) (.pu (.tuple (xs ++ ys))) := fun σ G H F Q k q => by
  refine cE_of (pe_op op_catA pe_c pe_c) ?_
  refine ha σ G H F _ k fun v G1 H1 f1 t1 r1 _ _ => ?_
  obtain ⟨_, r1⟩ := r1
  refine hb σ G1 H1 F _ (k.tr t1) fun u G2 H2 f2 t2 r2 _ _ => ?_
  obtain ⟨_, r2⟩ := r2
  cases r1 with
  | tup h1 h2 =>
    cases r2 with
    | tup h3 h4 =>
      rename_i p vs u ws
      have h1' := same_seqT t2.gg h1
      have h2' := rpAll_mono t2.gg h2
      refine ⟨p, u, vs, ws, rfl, rfl, same_seqT t2.gh h1', same_seqT t2.gh h3, by rw [rpAll_length h2, rpAll_length h4]; exact hz, fun e => ?_, fun n e => ?_, fun n1 n2 z hz => ?_⟩
      · subst e
        cases h2'
        exact q _ _ _ [] (t1.trans t2) ⟨rfl, .tup h3 h4⟩ (by simp) (by simp)
      · subst e
        cases h4
        rw [List.append_nil] at q
        exact q _ _ _ [] (t1.trans t2) ⟨rfl, .tup h1' h2'⟩ (by simp) (by simp)
      · have t3 := Tr.new (o := .tup (vs ++ ws)) t2.gh hz
        exact q _ _ _ [] ((t1.trans t2).trans t3) ⟨rfl, .tup (SqT.of upd_same) (rpAll_mono t3.gg (rpAll_app h2' h4))⟩ (by simp) (by simp)
/-- a part of a slice -/
def cO (X : Cx) (e : Option Expr) : TO := fun σ H Q => ∀ t, PO X e t → t σ H Q
def EvO (X : Cx) (ρ : List (Option RV)) (e : Option Expr) (o : Option Int) : Prop := ∃ t, PO X e t ∧ ∀ σ G H F (Q : Option Int → Hp → Prop), Okk X.K ρ σ G H F → (∀ G' H', Tr G H G' H' → Q o H') → t σ H Q
theorem evo_none : EvO X ρ none none := ⟨_, po_none, fun σ G H F Q k q => q G H (Tr.refl k.sub)⟩
theorem evo_some (h : EvP X ρ e (.int i)) : EvO X ρ (some e) (some i) := ⟨_, po_some pe_c, fun σ G H F Q k q => h σ G H F _ k fun v G1 H1 t1 r1 => ⟨i, rp_int r1, q G1 H1 t1⟩⟩
def cutD (xs : List D) (lo hi : Option Int) : List D := (xs.drop (HT.sIx xs.length 0 lo)).take (HT.sIx xs.length xs.length hi - HT.sIx xs.length 0 lo)
theorem cut_rp {K : PySem.W.Frag} {H : Hp} {vs : List V} {ds : List D} {lo hi : Option Int} (h : RpAll K H vs ds) : RpAll K H (cutV vs lo hi) (cutD ds lo hi) := by
  unfold cutV cutD
  rw [rpAll_length h]
  exact rpAll_take _ (rpAll_drop _ h)
theorem ev_sll {xs : List D} {l h : Option Expr} {lo hi : Option Int} {p2 : Pos} (ha : EvL X ρ a xs) (hl : EvO X ρ l lo) (hh : EvO X ρ h hi) : Ev X ρ (.Subscript a (.Slice l h none p2) pos) (.ls (cutD xs lo hi)) := fun σ G H F Q k q => by
  obtain ⟨tl, pl, ql⟩ := hl
  obtain ⟨th, ph, qh⟩ := hh
  refine cE_of (pe_slice sl_list pe_c pl ph) ?_
  refine ha σ G H F _ k fun p vs G1 H1 t1 h1 h2 => ?_
  refine ql σ G1 H1 F _ (k.tr t1) fun G2 H2 t2 => ?_
  refine qh σ G2 H2 F _ (k.tr (t1.trans t2)) fun G3 H3 t3 => ?_
  refine ⟨p, vs, rfl, SqL.of (t3.keep _ _ (t2.keep _ _ h1)), fun z hz => ?_⟩
  have t4 := Tr.newO (o := .lst (cutV vs lo hi)) t3.gh hz
  exact q _ _ _ [z] (((t1.trans t2).trans t3).trans t4) ⟨z, _, rfl, rfl, upd_same, sub_none t3.gh hz, cut_rp (rpAll_mono (t2.trans t3).gg h2)⟩ (by simp) fun y hy => by
    have e : y = z := by simpa using hy
    subst e
    exact ((t1.trans t2).trans t3).back hz
theorem ev_slt {xs : List D} {l h : Option Expr} {lo hi : Option Int} {p2 : Pos} (ha : Ev X ρ a (.pu (.tuple xs))) (hl : EvO X ρ l lo) (hh : EvO X ρ h hi) : Ev X ρ (.Subscript a (.Slice l h none p2) pos) (.pu (.tuple (cutD xs lo hi))) := fun σ G H F Q k q => by
  obtain ⟨tl, pl, ql⟩ := hl
  obtain ⟨th, ph, qh⟩ := hh
  refine cE_of (pe_slice sl_tupA pe_c pl ph) ?_
  refine ha σ G H F _ k fun v G1 H1 f1 t1 r1 _ _ => ?_
  obtain ⟨_, r1⟩ := r1
  refine ql σ G1 H1 F _ (k.tr t1) fun G2 H2 t2 => ?_
  refine qh σ G2 H2 F _ (k.tr (t1.trans t2)) fun G3 H3 t3 => ?_
  cases r1 with
  | tup h1 h2 =>
    rename_i p vs
    have t23 := t2.trans t3
    have h1' := same_seqT t23.gg h1
    have h2' := rpAll_mono t23.gg h2
    refine ⟨p, vs, rfl, same_seqT t3.gh h1', fun hw => ?_, fun _ z hz => ?_⟩
    · refine q _ _ _ [] ((t1.trans t2).trans t3) ⟨rfl, ?_⟩ (by simp) (by simp)
      have hl := rpAll_length h2'
      have e : cutD xs lo hi = xs := by
        unfold cutD
        rw [← hl, hw.1, hw.2, hl]
        simp
      rw [e]
      exact .tup h1' h2'
    · have t4 := Tr.new (o := .tup (cutV vs lo hi)) t3.gh hz
      exact q _ _ _ [] (((t1.trans t2).trans t3).trans t4) ⟨rfl, .tup (SqT.of upd_same) (rpAll_mono t4.gg (cut_rp h2'))⟩ (by simp) (by simp)
end
end DL

/-! data layer 3: statements, what is walked, comprehensions -/
namespace DL
open PySem L2

/-! ### outcomes -/
/-- what may be left for an exception of the class cls, its dict d, at σ and H -/
def WM (X : Cx) : WX := fun cls d σ H => ∀ u s', XE X (fun c' d' σ' H' => c' = cls ∧ d' = d ∧ σ' = σ ∧ H' = H) u s' → X.xe u s'
theorem takesM {X : Cx} : Takes X (WM X) := fun u s' ⟨a, B, sI, pins, σ, H, cls, d, e, I, nb, up, sky, na, os, ag, w⟩ =>
  w u s' ⟨a, B, sI, pins, σ, H, cls, d, e, I, nb, up, sky, na, os, ag, rfl, rfl, rfl, rfl⟩
theorem WM.of {X : Cx} {W : WX} {cls : Value} {d : Option Addr} {σ : St} {H : Hp} (t : Takes X W) (h : W cls d σ H) : WM X cls d σ H := fun u s' x =>
  (t.imp (W' := fun c' d' σ' H' => c' = cls ∧ d' = d ∧ σ' = σ ∧ H' = H) fun c' d' σ' H' ⟨e1, e2, e3, e4⟩ => by rw [e1, e2, e3, e4]; exact h) u s' x
inductive Out where
  | nx (ρ : List (Option RV)) | rt (r : RV) | bk (ρ : List (Option RV)) | ct (ρ : List (Option RV)) | ex (ρ : List (Option RV)) (C : Addr)
def Post (X : Cx) (D : Ends) (F : List Addr) (G H : Hp) : Out → Prop
  | .nx ρ => ∀ σ' G' H' F', Okk X.K ρ σ' G' H' F' → TrS F G H F' G' H' → D.nx σ' H'
  | .bk ρ => ∀ σ' G' H' F', Okk X.K ρ σ' G' H' F' → TrS F G H F' G' H' → D.bk σ' H'
  | .ct ρ => ∀ σ' G' H' F', Okk X.K ρ σ' G' H' F' → TrS F G H F' G' H' → D.ct σ' H'
  | .rt r => ∀ v G' H' f, RepR X.K G' H' v r f → f.Nodup → TrS F G H f G' H' → D.rt v H'
  | .ex ρ C => ∀ σ' G' H' F', Okk X.K ρ σ' G' H' F' → TrS F G H F' G' H' → WM X (.ref C) none σ' H'
theorem Post.tr {X : Cx} {D : Ends} {F F' : List Addr} {G H G' H' : Hp} (t : TrS F G H F' G' H') : ∀ {o : Out}, Post X D F G H o → Post X D F' G' H' o
  | .nx _, h => fun σ2 G2 H2 F2 k t2 => h σ2 G2 H2 F2 k (t.trans t2)
  | .bk _, h => fun σ2 G2 H2 F2 k t2 => h σ2 G2 H2 F2 k (t.trans t2)
  | .ct _, h => fun σ2 G2 H2 F2 k t2 => h σ2 G2 H2 F2 k (t.trans t2)
  | .rt _, h => fun v G2 H2 f r n t2 => h v G2 H2 f r n (t.trans t2)
  | .ex _ _, h => fun σ2 G2 H2 F2 k t2 => h σ2 G2 H2 F2 k (t.trans t2)
section
variable (X : Cx)
def cS (st : Stmt) : TS := fun D σ H => ∀ pins s, Inv X pins σ H s → wpAny (model X.prog X.w) X.A (exec st X.env) (SP X pins D) X.xe s
def cSs (st : List Stmt) : TS := fun D σ H => ∀ pins s, Inv X pins σ H s → wpAny (model X.prog X.w) X.A (execs st X.env) (SP X pins D) X.xe s
def cG (tg : Expr) : TG := fun v σ H Q => ∀ pins s u, Inv X pins σ H s → RelV v u → wpAny (model X.prog X.w) X.A (assign tg X.env u) (fun _ s' => ∃ σ' H', Inv X pins σ' H' s' ∧ Q σ' H') X.xe s
/-- blocks, one behind another -/
def cB : List (List Stmt) → TS
  | [] => fun D => D.nx
  | b :: bs => fun D => cSs X b { D with nx := cB bs D }
end
section
variable {X : Cx} {st : Stmt} {sts : List Stmt} {bs : List (List Stmt)} {D : Ends} {σ : St} {H : Hp} {tg : Expr}
theorem ps_c : PS X st (cS X st) := ⟨fun pins s _ _ _ I h => h pins s I⟩
theorem pss_c : PSs X sts (cSs X sts) := ⟨fun pins s _ _ _ I h => h pins s I⟩
theorem pg_c : PG X tg (cG X tg) := ⟨fun pins s _ _ _ u _ I r h => h pins s u I r⟩
theorem cS_of {t : TS} (p : PS X st t) (h : t D σ H) : cS X st D σ H := fun pins s I => p.run pins s σ H D I h
theorem cSs_of {t : TS} (p : PSs X sts t) (h : t D σ H) : cSs X sts D σ H := fun pins s I => p.run pins s σ H D I h
theorem cG_of {t : TG} {v : V} {Q : St → Hp → Prop} (p : PG X tg t) (h : t v σ H Q) : cG X tg v σ H Q := fun pins s u I r => p.run pins s σ H v u Q I r h
theorem cB_cons (h : cS X st { D with nx := cB X (sts :: bs) D } σ H) : cB X ((st :: sts) :: bs) D σ H := cSs_of (pss_cons ps_c pss_c) h
theorem cB_nil (h : cB X bs D σ H) : cB X ([] :: bs) D σ H := cSs_of pss_nil h
end

/-- what the blocks come to -/
def Svb (X : Cx) (ρ : List (Option RV)) (bs : List (List Stmt)) (O : Out → Prop) : Prop := ∀ σ G H F D, Okk X.K ρ σ G H F → (∀ o, O o → Post X D F G H o) → cB X bs D σ H

section
variable {X : Cx} {ρ ρ' : List (Option RV)} {O O' : Out → Prop} {st : Stmt} {sts : List Stmt} {bs : List (List Stmt)} {pos : Pos} {e a b c : Expr} {r : RV} {d x : D} {ds : List D}
theorem svb_end (h : O (.nx ρ)) : Svb X ρ [] O := fun σ G H F D k q => q _ h σ G H F k (TrS.refl k.sub)
theorem svb_nil (h : Svb X ρ bs O) : Svb X ρ ([] :: bs) O := fun σ G H F D k q => cB_nil (h σ G H F D k q)
theorem Svb.mono (h : Svb X ρ bs O') (i : ∀ o, O' o → O o) : Svb X ρ bs O := fun σ G H F D k q => h σ G H F D k fun o z => q o (i o z)
/-- less is known -/
theorem svb_fgt (w : Fgt ρ ρ') (h : Svb X ρ' bs O) : Svb X ρ bs O := fun σ G H F D k q => by
  obtain ⟨F', k', t⟩ := k.fgt w
  exact h σ G H F' D k' fun o z => (q o z).tr t
/-- the first block, then the others -/
theorem svb_cut {b : List Stmt} (h : Svb X ρ [b] O') (hn : ∀ ρ1, O' (.nx ρ1) → Svb X ρ1 bs O) (ho : ∀ o, O' o → (∀ ρ1, o ≠ .nx ρ1) → O o) : Svb X ρ (b :: bs) O := fun σ G H F D k q => by
  refine h σ G H F { D with nx := cB X bs D } k fun o z => ?_
  cases o with
  | nx ρ1 => exact fun σ' G' H' F' k' t => hn ρ1 z σ' G' H' F' D k' fun o' z' => (q o' z').tr t
  | rt r => exact fun v G' H' f rp nd t => q _ (ho _ z (fun _ e => nomatch e)) v G' H' f rp nd t
  | bk ρ1 => exact fun σ' G' H' F' k' t => q _ (ho _ z (fun _ e => nomatch e)) σ' G' H' F' k' t
  | ct ρ1 => exact fun σ' G' H' F' k' t => q _ (ho _ z (fun _ e => nomatch e)) σ' G' H' F' k' t
  | ex ρ1 C => exact fun σ' G' H' F' k' t => q _ (ho _ z (fun _ e => nomatch e)) σ' G' H' F' k' t
theorem svb_step (h : ∀ σ G H F D, Okk X.K ρ σ G H F → (∀ o, O o → Post X D F G H o) → cS X st { D with nx := cB X (sts :: bs) D } σ H) : Svb X ρ ((st :: sts) :: bs) O := fun σ G H F D k q => cB_cons (h σ G H F D k q)
theorem svb_pass (h : Svb X ρ (sts :: bs) O) : Svb X ρ ((.Pass pos :: sts) :: bs) O := svb_step fun σ G H F D k q => cS_of ps_pass (h σ G H F D k q)
theorem svb_break (h : O (.bk ρ)) : Svb X ρ ((.Break pos :: sts) :: bs) O := svb_step fun σ G H F D k q => cS_of ps_break (q _ h σ G H F k (TrS.refl k.sub))
theorem svb_continue (h : O (.ct ρ)) : Svb X ρ ((.Continue pos :: sts) :: bs) O := svb_step fun σ G H F D k q => cS_of ps_continue (q _ h σ G H F k (TrS.refl k.sub))
theorem svb_ret (he : Ev X ρ e r) (h : O (.rt r)) : Svb X ρ ((.Return (some e) pos :: sts) :: bs) O := svb_step fun σ G H F D k q => cS_of (ps_ret pe_c)
  (he σ G H F _ k fun v G' H' f t rp nd fr => q _ h v G' H' f rp nd (t.toS fun p hp => .inr (fr p hp)))
theorem svb_retN (h : O (.rt (.pu .none))) : Svb X ρ ((.Return none pos :: sts) :: bs) O := svb_step fun σ G H F D k q => cS_of ps_retN
  (q _ h _ G H [] ⟨rfl, .non⟩ (by simp) ((Tr.refl k.sub).toS (by simp)))
/-- a name that owns its value is handed back -/
theorem svb_retO {y : Str} {py : Pos} (i : Nat) (h : O (.rt r)) (hr : ρ[i]? = some (some r) := by rfl) (hN : X.N[i]? = some y := by rfl) (hv : Vis X.env.scope y := by first | exact Or.inl rfl | exact Or.inr (Or.inl rfl) | exact Or.inr (Or.inr rfl))
    (hd : (y == ("__debug__" : Str)) = false := by decide) (hcd : (y == ("__classdict__" : Str)) = false := by decide) : Svb X ρ ((.Return (some (.Name y py)) pos :: sts) :: bs) O := svb_step fun σ G H F D k q => by
  obtain ⟨v, f, h1, h2, h3, h4⟩ := k.sl.get hr
  exact cS_of (ps_ret (pe_var hN hv hd hcd)) ⟨v, h1, q _ h v G H f h2 (h4 k.nd) ((Tr.refl k.sub).toS fun p hp => .inl (h3 p hp))⟩
/-- x = e -/
theorem svb_set {k : Nat} [Cok k X] {y : Str} {py : Pos} (i : Nat) (he : Ev X ρ e r) (h : Svb X (ρ.set i (some r)) (sts :: bs) O) (hi : i < ρ.length := by decide) (hN : X.N[i]? = some y := by rfl)
    (hl : Loc X.env.scope y := by first | exact Or.inl rfl | exact Or.inr rfl) (hs : swapsWith e (some (.Name y py)) pos.line X.env = pure false := by rfl) (hf : X.fn y = true ∨ X.env.scope.names.lookup y = some .local := by first | exact .inl rfl | exact .inr rfl) :
    Svb X ρ ((.Assign [.Name y py] e pos :: sts) :: bs) O := svb_step fun σ G H F D k q => by
  refine cS_of (ps_set (Cok.nd (X := X)) hN hl pe_c hs hf) ?_
  refine he σ G H F _ k fun v G' H' f t rp nd fr => ?_
  obtain ⟨F', k', t'⟩ := k.store t hi rp nd fr
  exact h _ G' H' F' D k' fun o z => (q o z).tr t'
/-- x += e of ints -/
theorem svb_augi {k : Nat} [Cok k X] {y : Str} {py : Pos} {m n : Int} (i : Nat) (hr : ρ[i]? = some (some (.pu (.int m)))) (he : EvP X ρ e (.int n)) (h : Svb X (ρ.set i (some (.pu (.int (m + n))))) (sts :: bs) O) (hN : X.N[i]? = some y := by rfl)
    (hl : Loc X.env.scope y := by first | exact Or.inl rfl | exact Or.inr rfl) (hf : X.fn y = true ∨ X.env.scope.names.lookup y = some .local := by first | exact .inl rfl | exact .inr rfl) :
    Svb X ρ ((.AugAssign (.Name y py) .Add e pos :: sts) :: bs) O := svb_step fun σ G H F D k q => by
  refine cS_of (ps_aug (Cok.nd (X := X)) hN hl pe_c ip_add hf) ?_
  obtain ⟨v, f, h1, h2, h3, h4⟩ := k.sl.get hr
  refine ⟨v, h1, he σ G H F _ k fun u G' H' t ru => ?_⟩
  refine ⟨m, n, rp_int h2.2, rp_int ru, ?_⟩
  have hi : i < ρ.length := (List.getElem?_eq_some_iff.mp hr).1
  obtain ⟨F', k', t'⟩ := k.store t (i := i) (v := .int (m + n)) (r := .pu (.int (m + n))) (f := []) hi ⟨rfl, .int _⟩ (by simp) (by simp)
  exact h _ G' H' F' D k' fun o z => (q o z).tr t'
/-- e alone -/
theorem svb_expr (he : Ev X ρ e r) (h : Svb X ρ (sts :: bs) O) (hs : swapsWith e none pos.line X.env = pure false := by rfl) : Svb X ρ ((.Expr e pos :: sts) :: bs) O := svb_step fun σ G H F D k q => by
  refine cS_of (ps_expr pe_c hs) ?_
  refine he σ G H F _ k fun v G' H' f t rp nd fr => ?_
  exact h σ G' H' F D (k.tr t) fun o z => (q o z).tr (t.toS fun p hp => .inl hp)
/-- if -/
theorem svb_if {t : Bool} {thn els : List Stmt} (hc : EvT X ρ c t) (h1 : t = true → Svb X ρ (thn :: sts :: bs) O) (h2 : t = false → Svb X ρ (els :: sts :: bs) O) : Svb X ρ ((.If c thn els pos :: sts) :: bs) O := svb_step fun σ G H F D k q => by
  refine cS_of (ps_if pt_c pss_c pss_c) ?_
  refine hc σ G H F _ k fun G' H' tr => ?_
  have q' : ∀ o, O o → Post X D F G' H' o := fun o z => (q o z).tr (tr.toS fun p hp => .inl hp)
  cases t with
  | true => rw [if_pos rfl]; exact h1 rfl σ G' H' F D (k.tr tr) q'
  | false => rw [if_neg Bool.false_ne_true]; exact h2 rfl σ G' H' F D (k.tr tr) q'
end

/-! ### a slot that changes -/
section
variable {K : PySem.W.Frag} {G H G' H' : Hp}
theorem RepL.ch (s : Same G G') {v : V} {ds : List D} {f : List Addr} (u : ∀ q ∈ f, G' q = none ∧ H' q = H q) (h : RepL K G H v ds f) : RepL K G' H' v ds f := by
  obtain ⟨p, vs, e1, e2, e3, e4, e5⟩ := h
  subst e2
  obtain ⟨u1, u2⟩ := u p (by simp)
  exact ⟨p, vs, e1, rfl, by rw [u2]; exact e3, u1, rpAll_mono s e5⟩
theorem RepC.ch (s : Same G G') : ∀ {v : V} {c : Cm} {f : List Addr}, (∀ q ∈ f, G' q = none ∧ H' q = H q) → RepC K G H v c f → RepC K G' H' v c f
  | _, .pu _, _, _, h => ⟨h.1, rp_mono s h.2⟩
  | _, .ls _, _, u, h => RepL.ch s u h
theorem RepCs.ch (s : Same G G') {vs : List V} {cs : List Cm} {f : List Addr} (h : RepCs K G H vs cs f) : (∀ q ∈ f, G' q = none ∧ H' q = H q) → RepCs K G' H' vs cs f := by
  induction h with
  | nil => exact fun _ => .nil
  | cons h _ ih => exact fun u => .cons (RepC.ch s (fun q hq => u q (List.mem_append_left _ hq)) h) (ih fun q hq => u q (List.mem_append_right _ hq))
theorem RepR.ch (s : Same G G') : ∀ {v : V} {r : RV} {f : List Addr}, (∀ q ∈ f, G' q = none ∧ H' q = H q) → RepR K G H v r f → RepR K G' H' v r f
  | _, .pu _, _, _, h => ⟨h.1, rp_mono s h.2⟩
  | _, .ls _, _, u, h => RepL.ch s u h
  | _, .tp _, _, u, h => by
    obtain ⟨a, vs, e1, e2, e3⟩ := h
    exact ⟨a, vs, e1, s _ _ e2, e3.ch s u⟩
  | _, .fz _, _, _, h => by
    obtain ⟨e0, a, vs, e1, e2, e3⟩ := h
    exact ⟨e0, a, vs, e1, s.seq e2, rpAll_mono s e3⟩
theorem Sl.ch (s : Same G G') {ρ : List (Option RV)} {σ : St} {F : List Addr} (h : Sl K G H ρ σ F) : (∀ q ∈ F, G' q = none ∧ H' q = H q) → Sl K G' H' ρ σ F := by
  induction h with
  | nil => exact fun _ => .nil
  | any _ ih => exact fun u => .any (ih u)
  | has h _ ih => exact fun u => .has (RepR.ch s (fun q hq => u q (List.mem_append_left _ hq)) h) (ih fun q hq => u q (List.mem_append_right _ hq))
theorem Sl.alter {i : Nat} {r : RV} : ∀ {ρ : List (Option RV)} {σ : St} {F : List Addr}, Sl K G H ρ σ F → ρ[i]? = some (some r) → F.Nodup → ∃ v f, σ[i]? = some (some v) ∧ RepR K G H v r f ∧ f.Nodup ∧ (∀ q ∈ f, q ∈ F) ∧
    ∀ (G' H' : Hp) (r' : RV) (f' : List Addr), Same G G' → (∀ q ∈ F, q ∉ f → G' q = none ∧ H' q = H q) → RepR K G' H' v r' f' → (∀ q ∈ f', q ∈ f) → f'.Nodup →
      ∃ F', Sl K G' H' (ρ.set i (some r')) σ F' ∧ F'.Nodup ∧ ∀ q ∈ F', q ∈ f' ∨ (q ∈ F ∧ q ∉ f) := by
  induction i with
  | zero =>
    intro ρ σ F h hr nd
    cases h with
    | nil => simp at hr
    | any h => simp at hr
    | @has v r0 f ρ σ F0 hr0 h =>
      simp at hr
      subst hr
      obtain ⟨n1, n2, n3⟩ := List.nodup_append.mp nd
      refine ⟨v, f, rfl, hr0, n1, fun q hq => List.mem_append_left _ hq, fun G' H' r' f' s u hr' sub nd' => ?_⟩
      have no : ∀ q ∈ F0, q ∉ f := fun q hq z => n3 q z q hq rfl
      refine ⟨f' ++ F0, .has hr' (h.ch s fun q hq => u q (List.mem_append_right _ hq) (no q hq)), List.nodup_append.mpr ⟨nd', n2, fun a ha b hb => n3 a (sub a ha) b hb⟩, fun q hq => ?_⟩
      rcases List.mem_append.mp hq with z | z
      · exact .inl z
      · exact .inr ⟨List.mem_append_right _ z, no q z⟩
  | succ i ih =>
    intro ρ σ F h hr nd
    cases h with
    | nil => simp at hr
    | any h =>
      obtain ⟨v, f, a1, a2, a3, a4, a5⟩ := ih h (by simpa using hr) nd
      refine ⟨v, f, by simpa using a1, a2, a3, a4, fun G' H' r' f' s u hr' sub nd' => ?_⟩
      obtain ⟨F', b1, b2, b3⟩ := a5 G' H' r' f' s u hr' sub nd'
      exact ⟨F', .any b1, b2, b3⟩
    | @has v0 r0 f0 ρ σ F0 hr0 h =>
      obtain ⟨n1, n2, n3⟩ := List.nodup_append.mp nd
      obtain ⟨v, f, a1, a2, a3, a4, a5⟩ := ih h (by simpa using hr) n2
      refine ⟨v, f, by simpa using a1, a2, a3, fun q hq => List.mem_append_right _ (a4 q hq), fun G' H' r' f' s u hr' sub nd' => ?_⟩
      obtain ⟨F', b1, b2, b3⟩ := a5 G' H' r' f' s (fun q hq hn => u q (List.mem_append_right _ hq) hn) hr' sub nd'
      have no : ∀ q ∈ f0, q ∉ f := fun q hq z => n3 q hq q (a4 q z) rfl
      have inF : ∀ q ∈ F', q ∈ F0 := fun q hq => (b3 q hq).elim (fun z => a4 q (sub q z)) fun z => z.1
      refine ⟨f0 ++ F', .has (RepR.ch s (fun q hq => u q (List.mem_append_left _ hq) (no q hq)) hr0) b1, List.nodup_append.mpr ⟨n1, b2, fun a ha b hb => n3 a ha b (inF b hb)⟩, fun q hq => ?_⟩
      rcases List.mem_append.mp hq with z | z
      · exact .inr ⟨List.mem_append_left _ z, no q z⟩
      · exact (b3 q z).imp id fun w => ⟨List.mem_append_right _ w.1, w.2⟩
end
section
variable {K : PySem.W.Frag} {G H G' H' : Hp} {ρ : List (Option RV)} {σ : St} {F : List Addr} {i : Nat} {ds ds' : List D}
/-- a list of one's own is shared from here on -/
theorem Okk.fz (k : Okk K ρ σ G H F) (hr : ρ[i]? = some (some (.ls ds))) : ∃ G' F', Okk K (ρ.set i (some (.pu (.list ds)))) σ G' H F' ∧ TrS F G H F' G' H := by
  obtain ⟨v, f, a1, a2, a3, a4, a5⟩ := k.sl.alter hr k.nd
  obtain ⟨p, vs, e1, e2, e3, e4, e5⟩ := a2
  subst e1 e2
  have s : Same G (upd G p (.lst vs)) := same_new e4
  obtain ⟨F', b1, b2, b3⟩ := a5 (upd G p (.lst vs)) H (.pu (.list ds)) [] s (fun q hq hn => ⟨by rw [upd_ne (by simpa using hn)]; exact (k.sl.at q hq).2, rfl⟩) ⟨rfl, .lst upd_same (rpAll_mono s e5)⟩ (by simp) (by simp)
  have sub : Same (upd G p (.lst vs)) H := fun a o h => by
    by_cases e : a = p
    · subst e; rw [upd_same] at h; rw [e3]; exact h
    · rw [upd_ne e] at h; exact k.sub a o h
  refine ⟨_, F', ⟨sub, b1, b2⟩, s, sub, fun a o h _ => h, fun a o h hn _ g => ?_, fun q hq => ?_⟩
  · rw [upd_ne (fun e : a = p => hn (by rw [e]; exact a4 p (by simp)))]; exact g
  · rcases b3 q hq with z | z
    · simp at z
    · exact .inl z.1
/-- a list of one's own changes -/
theorem Okk.mut (k : Okk K ρ σ G H F) (hr : ρ[i]? = some (some (.ls ds))) : ∃ p vs, σ[i]? = some (some (.ref p)) ∧ H p = some (.lst vs) ∧ G p = none ∧ p ∈ F ∧ RpAll K G vs ds ∧
    ∀ G' H' vs' ds', Tr G H G' H' → RpAll K G' vs' ds' → ∃ F', Okk K (ρ.set i (some (.ls ds'))) σ G' (upd H' p (.lst vs')) F' ∧ TrS F G H F' G' (upd H' p (.lst vs')) := by
  obtain ⟨v, f, a1, a2, a3, a4, a5⟩ := k.sl.alter hr k.nd
  obtain ⟨p, vs, e1, e2, e3, e4, e5⟩ := a2
  subst e1 e2
  refine ⟨p, vs, a1, e3, e4, a4 p (by simp), e5, fun G' H' vs' ds' t r' => ?_⟩
  have g' : G' p = none := t.far p _ e3 (fun z => z) e4
  obtain ⟨F', b1, b2, b3⟩ := a5 G' (upd H' p (.lst vs')) (.ls ds') [p] t.gg (fun q hq hn => by
    have hne : q ≠ p := by simpa using hn
    obtain ⟨⟨xs, z⟩, g⟩ := k.sl.at q hq
    exact ⟨t.far q _ z (fun z => z) g, by rw [upd_ne hne, z]; exact t.keep q _ z⟩) ⟨p, vs', rfl, rfl, upd_same, g', r'⟩ (fun q hq => hq) (by simp)
  have sub : Same G' (upd H' p (.lst vs')) := fun a o h => by
    rw [upd_ne (ne_of_none h g')]; exact t.gh a o h
  have pF : p ∈ F := a4 p (by simp)
  refine ⟨F', ⟨sub, b1, b2⟩, t.gg, sub, fun a o h hn => ?_, fun a o h hn it g => t.far a o h it g, fun q hq => .inl ?_⟩
  · rw [upd_ne (fun e : a = p => hn (by rw [e]; exact pF))]; exact t.keep a o h
  · rcases b3 q hq with z | z
    · exact a4 q z
    · exact z.1
end

section
variable {X : Cx} {ρ ρ' : List (Option RV)} {O O' : Out → Prop} {st : Stmt} {sts : List Stmt} {bs : List (List Stmt)} {pos apos : Pos} {e a b c : Expr} {r : RV} {d x : D} {ds : List D}
theorem svb_fz (i : Nat) (hr : ρ[i]? = some (some (.ls ds))) (h : Svb X (ρ.set i (some (.pu (.list ds)))) bs O) : Svb X ρ bs O := fun σ G H F D k q => by
  obtain ⟨G', F', k', t⟩ := k.fz hr
  exact h σ G' H F' D k' fun o z => (q o z).tr t
theorem tyV_list {K : PySem.W.Frag} {H : Hp} {p : Addr} {vs : List V} (h : H p = some (.lst vs)) : tyV K "list" (.ref p) H := .inl ⟨rfl, _, SqL.of h⟩
/-- x.append(e) -/
theorem svb_append {y : Str} {py : Pos} (i : Nat) (hr : ρ[i]? = some (some (.ls ds))) (he : Ev X ρ e (.pu d)) (hz : ds.length < sizeLine) (h : Svb X (ρ.set i (some (.ls (ds ++ [d])))) (sts :: bs) O) (hN : X.N[i]? = some y := by rfl)
    (hv : Vis X.env.scope y := by first | exact Or.inl rfl | exact Or.inr (Or.inl rfl) | exact Or.inr (Or.inr rfl)) (hd : (y == ("__debug__" : Str)) = false := by decide) (hcd : (y == ("__classdict__" : Str)) = false := by decide)
    (hse : notStar e = true := by rfl) (hbase : attributeBase (.Name y py) "append" X.env (eval (.Name y py) X.env) = eval (.Name y py) X.env := by rfl)
    (hfew : ((backTo pos (starEach [e] X.env)).all (fun x => !x.1) && (backToKw pos (keywordEach [] X.env)).all (fun x => x.1.isSome)
      && decide (([e] : List Expr).length + ([] : List Keyword).length + (if ([] : List Keyword).isEmpty then 0 else 1) < 30)) = true := by rfl)
    (hline : (apos.endLine == pos.line) = true := by rfl) {pos' : Pos} : Svb X ρ ((.Expr (.Call (.Attribute (.Name y py) "append" apos) [e] [] pos) pos' :: sts) :: bs) O := svb_step fun σ G H F D k q => by
  have hst : starEach (e :: []) X.env = (false, eval e X.env) :: starEach [] X.env := star_cons hse
  refine cS_of (ps_expr (pe_bm PySem.F.plainAttrs_list PySem.F.slot_list_append PySem.F.type_list_append mt_append (pe_var hN hv hd hcd) (pa_cons pe_c pa_nil hst) hbase hfew hline hst (by rfl)) (by rfl)) ?_
  obtain ⟨p, vs, a1, a2, a3, a4, a5, a6⟩ := k.mut hr
  refine ⟨_, a1, tyV_list a2, he σ G H F _ k fun v G' H' f t rp _ _ => ?_⟩
  obtain ⟨_, rp⟩ := rp
  refine ⟨p, vs, v, rfl, rfl, t.keep _ _ a2, by rw [rpAll_length a5]; exact hz, ?_⟩
  obtain ⟨F', k', t'⟩ := a6 G' H' (vs ++ [v]) (ds ++ [d]) t (rpAll_app (rpAll_mono t.gg a5) (rpAll_one rp))
  exact h σ G' _ F' D k' fun o z => (q o z).tr t'
/-- x[j] = e -/
theorem svb_setix {y : Str} {py : Pos} {j : Expr} {m : Int} {n : Nat} (i : Nat) (hr : ρ[i]? = some (some (.ls ds))) (he : Ev X ρ e (.pu d)) (hj : EvP X ρ j (.int m)) (hn : ixN ds.length m = some n)
    (h : Svb X (ρ.set i (some (.ls (ds.set n d)))) (sts :: bs) O) (hN : X.N[i]? = some y := by rfl)
    (hv : Vis X.env.scope y := by first | exact Or.inl rfl | exact Or.inr (Or.inl rfl) | exact Or.inr (Or.inr rfl)) (hd : (y == ("__debug__" : Str)) = false := by decide) (hcd : (y == ("__classdict__" : Str)) = false := by decide)
    (ha : ∀ v, assign (.Subscript (.Name y py) j apos) X.env v = (do
      let ov ← holding [v] (eval (.Name y py) X.env)
      let iv ← holding [v, ov] (eval j X.env)
      standAt apos
      holding [v, ov, iv] (setItem ov iv v)
      release [v, ov, iv] []) := by intro _; rfl)
    (hs : swapsWithSole [.Subscript (.Name y py) j apos] e pos.line X.env = pure false := by rfl) (hw : swappedStores [.Subscript (.Name y py) j apos] e X.env = pure none := by rfl)
    (h1 : (assignEach [.Subscript (.Name y py) j apos] X.env).map (·.2) = [assign (.Subscript (.Name y py) j apos) X.env] := by rfl) :
    Svb X ρ ((.Assign [.Subscript (.Name y py) j apos] e pos :: sts) :: bs) O := svb_step fun σ G H F D k q => by
  refine cS_of (ps_asg pe_c (pg_sub (pe_var hN hv hd hcd) pe_c set_list ha) hs hw h1) ?_
  obtain ⟨p, vs, a1, a2, a3, a4, a5, a6⟩ := k.mut hr
  refine he σ G H F _ k fun v G1 H1 f t1 rp _ _ => ?_
  obtain ⟨_, rp⟩ := rp
  refine ⟨_, a1, hj σ G1 H1 F _ (k.tr t1) fun u G2 H2 t2 ru => ?_⟩
  have t := t1.trans t2
  refine ⟨p, vs, m, n, rfl, rp_int ru, t.keep _ _ a2, by rw [rpAll_length a5]; exact hn, ?_⟩
  obtain ⟨F', k', t'⟩ := a6 G2 H2 (vs.set n v) (ds.set n d) t (rpAll_set (rp_mono t2.gg rp) n (rpAll_mono t.gg a5))
  exact h σ G2 _ F' D k' fun o z => (q o z).tr t'
/-- x.clear() -/
theorem svb_clear {y : Str} {py : Pos} (i : Nat) (hr : ρ[i]? = some (some (.ls ds))) (h : Svb X (ρ.set i (some (.ls []))) (sts :: bs) O) (hN : X.N[i]? = some y := by rfl)
    (hv : Vis X.env.scope y := by first | exact Or.inl rfl | exact Or.inr (Or.inl rfl) | exact Or.inr (Or.inr rfl)) (hd : (y == ("__debug__" : Str)) = false := by decide) (hcd : (y == ("__classdict__" : Str)) = false := by decide)
    (hbase : attributeBase (.Name y py) "clear" X.env (eval (.Name y py) X.env) = eval (.Name y py) X.env := by rfl) (hline : (apos.endLine == pos.line) = true := by rfl) {pos' : Pos} :
    Svb X ρ ((.Expr (.Call (.Attribute (.Name y py) "clear" apos) [] [] pos) pos' :: sts) :: bs) O := svb_step fun σ G H F D k q => by
  refine cS_of (ps_expr (pe_bm0 PySem.F.plainAttrs_list PySem.F.slot_list_clear PySem.F.type_list_clear mt_clear (pe_var hN hv hd hcd) hbase hline) (by rfl)) ?_
  obtain ⟨p, vs, a1, a2, a3, a4, a5, a6⟩ := k.mut hr
  refine ⟨_, a1, tyV_list a2, p, vs, rfl, rfl, a2, ?_⟩
  obtain ⟨F', k', t'⟩ := a6 G H [] [] (Tr.refl k.sub) .nil
  exact h σ G _ F' D k' fun o z => (q o z).tr t'
end
end DL

/-! data layer 4: targets, what is walked, loops, comprehensions, defs -/
namespace DL
open PySem L2

/-! ### slots that a comprehension forgets -/
theorem wipe_get (σ : St) : ∀ (vs : List Nat) (i : Nat), (wipe σ vs)[i]? = if i ∈ vs then (if i < σ.length then some none else none) else σ[i]?
  | [], i => by simp [wipe]
  | v :: vs, i => by
    have ih := wipe_get σ vs i
    unfold wipe
    rw [List.getElem?_set, wipe_length]
    by_cases h : v = i
    · subst h
      simp
    · rw [if_neg h, ih]
      have e : i ∈ v :: vs ↔ i ∈ vs := by simp [Ne.symm h]
      simp only [e]
theorem wipe_ext {σ σ' : St} {vs : List Nat} (hl : σ'.length = σ.length) (h : ∀ i, i ∉ vs → σ'[i]? = σ[i]?) : wipe σ' vs = wipe σ vs := by
  apply List.ext_getElem?
  intro i
  rw [wipe_get, wipe_get, hl]
  by_cases e : i ∈ vs
  · rw [if_pos e, if_pos e]
  · rw [if_neg e, if_neg e]; exact h i e
def wipeR (ρ : List (Option RV)) : List Nat → List (Option RV)
  | [] => ρ
  | v :: vs => (wipeR ρ vs).set v none
theorem Sl.unset {K : PySem.W.Frag} {G H : Hp} {ρ : List (Option RV)} {σ : St} {F : List Addr} (h : Sl K G H ρ σ F) : ∀ (i : Nat), ∃ F', Sl K G H (ρ.set i none) (σ.set i none) F' ∧ (F.Nodup → F'.Nodup) ∧ ∀ p ∈ F', p ∈ F := by
  induction h with
  | nil => exact fun i => ⟨[], .nil, id, fun _ h => h⟩
  | @any o ρ σ F h ih =>
    intro i
    cases i with
    | zero => exact ⟨F, .any h, id, fun _ h => h⟩
    | succ i =>
      obtain ⟨F', a, b, c⟩ := ih i
      exact ⟨F', .any a, b, c⟩
  | @has v r f ρ σ F r0 h ih =>
    intro i
    cases i with
    | zero => exact ⟨F, .any h, fun n => (List.nodup_append.mp n).2.1, fun p hp => List.mem_append_right _ hp⟩
    | succ i =>
      obtain ⟨F', a, b, c⟩ := ih i
      refine ⟨f ++ F', .has r0 a, fun n => ?_, fun p hp => (List.mem_append.mp hp).elim (List.mem_append_left _) fun q => List.mem_append_right _ (c p q)⟩
      obtain ⟨n1, n2, n3⟩ := List.nodup_append.mp n
      exact List.nodup_append.mpr ⟨n1, b n2, fun x hx y hy => n3 x hx y (c y hy)⟩
theorem Sl.wiped {K : PySem.W.Frag} {G H : Hp} {ρ : List (Option RV)} {σ : St} {F : List Addr} (h : Sl K G H ρ σ F) : ∀ (vs : List Nat), ∃ F', Sl K G H (wipeR ρ vs) (wipe σ vs) F' ∧ (F.Nodup → F'.Nodup) ∧ ∀ p ∈ F', p ∈ F
  | [] => ⟨F, h, id, fun _ h => h⟩
  | v :: vs => by
    obtain ⟨F', a, b, c⟩ := Sl.wiped h vs
    obtain ⟨F2, a2, b2, c2⟩ := a.unset v
    exact ⟨F2, a2, fun n => b2 (b n), fun p hp => c p (c2 p hp)⟩

/-! ### targets -/
/-- what the target takes from shared data d; js: the slots that are stored -/
def Tg (X : Cx) (ρ : List (Option RV)) (tg : Expr) (d : D) (ρ' : List (Option RV)) (js : List Nat) : Prop :=
  ∀ σ G H F v (Q : St → Hp → Prop), Okk X.K ρ σ G H F → Rp X.K G v d → (∀ σ' F', Okk X.K ρ' σ' G H F' → (∀ p ∈ F', p ∈ F) → (∀ vs : List Nat, (∀ j ∈ js, j ∈ vs) → wipe σ' vs = wipe σ vs) → Q σ' H) → cG X tg v σ H Q
def cGs (X : Cx) (es : List Expr) : TGs := fun vs σ H Q => ∀ pins s us, Inv X pins σ H s → Vals vs us →
  wpAny (model X.prog X.w) X.A (assignInOrder ((assignEach es X.env).map (·.2)) us) (fun _ s' => ∃ σ' H', Inv X pins σ' H' s' ∧ Q σ' H') X.xe s
def TgS (X : Cx) (ρ : List (Option RV)) (es : List Expr) (ds : List D) (ρ' : List (Option RV)) (js : List Nat) : Prop :=
  ∀ σ G H F vs (Q : St → Hp → Prop), Okk X.K ρ σ G H F → RpAll X.K G vs ds → (∀ σ' F', Okk X.K ρ' σ' G H F' → (∀ p ∈ F', p ∈ F) → (∀ vs : List Nat, (∀ j ∈ js, j ∈ vs) → wipe σ' vs = wipe σ vs) → Q σ' H) → cGs X es vs σ H Q
section
variable {X : Cx} {ρ ρ' ρ2 : List (Option RV)} {d : D} {ds : List D} {e tg : Expr} {es : List Expr} {js js2 : List Nat} {pos : Pos} {sts : List Stmt} {bs : List (List Stmt)} {O : Out → Prop}
theorem pgs_c : PGs X es (cGs X es) := ⟨fun pins s _ _ _ us _ I r h => h pins s us I r⟩
theorem tg_n {k : Nat} [Cok k X] {y : Str} {py : Pos} (i : Nat) (hi : i < ρ.length := by decide) (hN : X.N[i]? = some y := by rfl) (hl : Loc X.env.scope y := by first | exact Or.inl rfl | exact Or.inr rfl)
    (hf : X.fn y = true ∨ X.env.scope.names.lookup y = some .local := by first | exact .inl rfl | exact .inr rfl) : Tg X ρ (.Name y py) d (ρ.set i (some (.pu d))) [i] := fun σ G H F v Q k r q => by
  refine cG_of (pg_name (Cok.nd (X := X)) hN hl hf) ?_
  obtain ⟨F', k', t⟩ := k.store (Tr.refl k.sub) (i := i) (v := v) (r := .pu d) (f := []) hi ⟨rfl, r⟩ (by simp) (by simp)
  refine q _ F' k' (fun p hp => ?_) fun vs hv => wipe_ext (by simp) fun j hj => ?_
  · rcases t.own p hp with z | z
    · exact z
    · exfalso
      obtain ⟨⟨xs, w⟩, _⟩ := k'.sl.at p hp
      rw [z] at w; cases w
  · rw [List.getElem?_set_ne]
    intro z
    exact hj (z ▸ hv i (by simp))
theorem tgs_nil : TgS X ρ [] [] ρ [] := fun σ G H F vs Q k r q => by
  cases r
  intro pins s us I rv
  exact pgs_nil.run pins s σ H _ us Q I rv ⟨rfl, q σ F k (fun _ h => h) fun _ _ => rfl⟩
theorem tgs_cons (h1 : Tg X ρ e d ρ' js) (h2 : TgS X ρ' es ds ρ2 js2) (hs : (assignEach (e :: es) X.env).map (·.2) = assign e X.env :: (assignEach es X.env).map (·.2) := by rfl) : TgS X ρ (e :: es) (d :: ds) ρ2 (js ++ js2) := fun σ G H F vs Q k r q => by
  cases r with
  | cons r1 r2 =>
    intro pins s us I rv
    refine (pgs_cons (t := cG X e) (u := cGs X es) pg_c pgs_c hs).run pins s σ H _ us Q I rv ⟨_, _, rfl, ?_⟩
    refine h1 σ G H F _ _ k r1 fun σ1 F1 k1 s1 w1 => ?_
    refine h2 σ1 G H F1 _ _ k1 r2 fun σ2 F2 k2 s2 w2 => ?_
    exact q σ2 F2 k2 (fun p hp => s1 p (s2 p hp)) fun vs hv => (w2 vs fun j hj => hv j (List.mem_append_right _ hj)).trans (w1 vs fun j hj => hv j (List.mem_append_left _ hj))
theorem tg_t {k : Nat} [Cok k X] {k2 : Nat} (h : TgS X ρ es ds ρ' js) (hl : ds.length = (assignEach es X.env).length := by rfl) (hst : (assignEach es X.env).findIdx? (·.1) = none := by rfl) : Tg X ρ (.Tuple es k2 pos) (.tuple ds) ρ' js := fun σ G H F v Q k r q => by
  cases r with
  | tup h1 h2 =>
    refine cG_of (pg_tup (n := ds.length) (Cok.calm (X := X)) pgs_c hl.symm hst) ?_
    exact ⟨_, _, rfl, same_seqT k.sub h1, rpAll_length h2, h σ G H F _ Q k h2 q⟩
/-- a, b, .. = e -/
theorem svb_asg (he : Ev X ρ e (.pu d)) (ht : Tg X ρ tg d ρ' js) (h : Svb X ρ' (sts :: bs) O) (hs : swapsWithSole [tg] e pos.line X.env = pure false := by rfl) (hw : swappedStores [tg] e X.env = pure none := by rfl)
    (h1 : (assignEach [tg] X.env).map (·.2) = [assign tg X.env] := by rfl) : Svb X ρ ((.Assign [tg] e pos :: sts) :: bs) O := svb_step fun σ G H F D k q => by
  refine cS_of (ps_asg pe_c pg_c hs hw h1) ?_
  refine he σ G H F _ k fun v G1 H1 f t1 r1 _ _ => ?_
  obtain ⟨_, r1⟩ := r1
  refine ht σ G1 H1 F v _ (k.tr t1) r1 fun σ' F' k' s' _ => ?_
  exact h σ' G1 H1 F' D k' fun o z => (q o z).tr (t1.toS fun p hp => .inl (s' p hp))
/-- a, b = e1, e2 (plain locals) -/
theorem svb_par {k : Nat} [Cok k X] {x y : Str} {a b : Expr} {px py pt : Pos} {kt k2 pt2} {r1 r2 : RV} (i j : Nat) (ha : EvAs X ρ [a, b] [r1, r2]) (h : Svb X ((ρ.set i (some r1)).set j (some r2)) (sts :: bs) O) (hi : i < ρ.length := by decide) (hj : j < ρ.length := by decide)
    (hij : i ≠ j := by decide) (hNi : X.N[i]? = some x := by rfl) (hNj : X.N[j]? = some y := by rfl)
    (hx : X.env.scope.names.lookup x = some .local := by rfl) (hy : X.env.scope.names.lookup y = some .local := by rfl)
    (hw : swappedStores [.Tuple [.Name x px, .Name y py] kt pt] (.Tuple [a, b] k2 pt2) X.env = pure (some [x, y]) := by rfl)
    (hs : swapsWithSole [.Tuple [.Name x px, .Name y py] kt pt] (.Tuple [a, b] k2 pt2) pos.line X.env = pure false := by rfl) :
    Svb X ρ ((.Assign [.Tuple [.Name x px, .Name y py] kt pt] (.Tuple [a, b] k2 pt2) pos :: sts) :: bs) O := svb_step fun σ G H F D k q => by
  refine cS_of (ps_par (Cok.calm (X := X)) (Cok.nd (X := X)) hNi hNj hij hx hy pa_c hw hs) ?_
  refine ha σ G H F _ k fun vs G' H' f t rs nd fr => ?_
  cases rs with
  | cons q1 rs =>
    cases rs with
    | @cons v2 _ f2 _ _ g q2 rs =>
      cases rs
      rename_i v1 f1
      simp only [List.append_nil] at nd fr
      obtain ⟨n1, n2, n3⟩ := List.nodup_append.mp nd
      refine ⟨_, _, rfl, ?_⟩
      obtain ⟨F1, a1, b1, c1⟩ := (k.sl.tr t).set hi q1 k.nd n1 fun p hp => k.fresh (fr p (List.mem_append_left _ hp))
      obtain ⟨F2, a2, b2, c2⟩ := a1.set (i := j) (by simpa using hj) q2 b1 n2 fun p hp z => by
        rcases c1 p z with w | w
        · exact n3 p w p hp rfl
        · exact k.fresh (fr p (List.mem_append_right _ hp)) w
      refine h _ G' H' F2 D ⟨t.gh, a2, b2⟩ fun o z => (q o z).tr (t.toS fun p hp => ?_)
      rcases c2 p hp with w | w
      · exact .inr (fr p (List.mem_append_right _ w))
      · rcases c1 p w with w | w
        · exact .inr (fr p (List.mem_append_left _ w))
        · exact .inl w
end

/-! ### what is walked -/
/-- the iterable gives the data of ds, one behind another, as long as what is shared stays -/
def EvI (X : Cx) (ρ : List (Option RV)) (tg iter : Expr) (ds : List D) : Prop := ∃ wi, PI X tg iter wi ∧ ∀ σ G H F (R : It → Hp → Prop), Okk X.K ρ σ G H F →
  (∀ (J : It) G1 H1 (Iv : Hp → Prop) (Y : Nat → Hp → V → Hp → Prop), Tr G H G1 H1 → Walk J ds.length Iv Y → (∀ G' H', Same G1 G' → Same G' H' → Iv H') →
    (∀ i G' H' x H2, i < ds.length → Same G1 G' → Same G' H' → Y i H' x H2 → ∃ d G2, ds[i]? = some d ∧ Tr G' H' G2 H2 ∧ Rp X.K G2 x d) → R J H1) → wi σ H R
section
variable {X : Cx} {ρ : List (Option RV)} {d : D} {ds : List D} {e tg : Expr} {es : List Expr} {p pos : Pos}
theorem evi_l (h : Ev X ρ e (.pu (.list ds))) : EvI X ρ tg e ds := ⟨_, pi_list pe_c, fun σ G H F R k q => by
  refine h σ G H F _ k fun v G1 H1 f t r _ _ => ?_
  obtain ⟨_, r⟩ := r
  cases r with
  | lst h1 h2 =>
    refine ⟨_, rfl, ⟨_, SqL.of (t.gh _ _ h1)⟩, q _ G1 H1 _ _ t (by rw [← rpAll_length h2]; exact walk_list) (fun G' H' a b => SqL.of (b _ _ (a _ _ h1))) fun i G' H' x H2 hi a b y => ?_⟩
    obtain ⟨rfl, hx⟩ := y
    have hd : ds[i]? = some ds[i] := List.getElem?_eq_getElem hi
    obtain ⟨v, e1, e2⟩ := rpAll_get h2 hd
    rw [hx] at e1; cases e1
    exact ⟨_, G', hd, Tr.refl b, rp_mono a e2⟩⟩
theorem evi_t (h : Ev X ρ e (.pu (.tuple ds))) : EvI X ρ tg e ds := ⟨_, pi_tup pe_c, fun σ G H F R k q => by
  refine h σ G H F _ k fun v G1 H1 f t r _ _ => ?_
  obtain ⟨_, r⟩ := r
  cases r with
  | tup h1 h2 =>
    refine ⟨_, rfl, ⟨_, same_seqT t.gh h1⟩, q _ G1 H1 _ _ t (by rw [← rpAll_length h2]; exact walk_tup) (fun G' H' a b => same_seqT b (same_seqT a h1)) fun i G' H' x H2 hi a b y => ?_⟩
    obtain ⟨rfl, hx⟩ := y
    have hd : ds[i]? = some ds[i] := List.getElem?_eq_getElem hi
    obtain ⟨v, e1, e2⟩ := rpAll_get h2 hd
    rw [hx] at e1; cases e1
    exact ⟨_, G', hd, Tr.refl b, rp_mono a e2⟩⟩
def rangeD (lo : Int) (n : Nat) : List D := (List.range n).map fun (i : Nat) => PyData.int (lo + (i : Int))
theorem rangeD_length (lo : Int) (n : Nat) : (rangeD lo n).length = n := by simp [rangeD]
theorem rangeD_get {lo : Int} {n i : Nat} (h : i < n) : (rangeD lo n)[i]? = some (.int (lo + (i : Int))) := by simp [rangeD, h]
theorem evi_r1 {a : Expr} {j : Int} (h : EvP X ρ a (.int j)) (hm : X.mg "range" = none) (h1 : -(2 ^ 62) ≤ j) (h2 : j < 2 ^ 62) (hg : Gl X "range" := by rfl) (hs : notStar a = true := by rfl) : EvI X ρ tg (.Call (.Name "range" p) [a] [] pos) (rangeD 0 j.toNat) :=
  ⟨_, pi_range1 hg hm pa_c (star_cons hs), fun σ G H F R k q => by
    refine evap_cons h evap_nil hs σ G H F _ k fun vs G1 H1 t r => ?_
    cases r with
    | cons r1 r2 =>
      cases r2
      cases rp_int r1
      refine ⟨j, rfl, h1, h2, q _ G1 H1 (fun _ => True) _ t (by rw [rangeD_length]; exact walk_range) (fun _ _ _ _ => trivial) fun i G' H' x H2 hi a b y => ?_⟩
      obtain ⟨rfl, rfl⟩ := y
      rw [rangeD_length] at hi
      exact ⟨_, G', rangeD_get hi, Tr.refl b, .int _⟩⟩
theorem evi_r2 {a b : Expr} {i j : Int} (ha : EvP X ρ a (.int i)) (hb : EvP X ρ b (.int j)) (hm : X.mg "range" = none) (h1 : -(2 ^ 62) ≤ i) (h2 : i < 2 ^ 62) (h3 : -(2 ^ 62) ≤ j) (h4 : j < 2 ^ 62) (hg : Gl X "range" := by rfl) (hs : notStar a = true := by rfl) (hs2 : notStar b = true := by rfl) :
    EvI X ρ tg (.Call (.Name "range" p) [a, b] [] pos) (rangeD i (j - i).toNat) :=
  ⟨_, pi_range2 hg hm pa_c (by rw [star_cons hs, star_cons hs2]; rfl) (star_cons hs2), fun σ G H F R k q => by
    refine evap_cons ha (evap_cons hb evap_nil hs2) hs σ G H F _ k fun vs G1 H1 t r => ?_
    cases r with
    | cons r1 r2 =>
      cases r2 with
      | cons r2 r3 =>
        cases r3
        cases rp_int r1
        cases rp_int r2
        refine ⟨i, j, rfl, ⟨h1, h2, h3, h4⟩, q _ G1 H1 (fun _ => True) _ t (by rw [rangeD_length]; exact walk_range) (fun _ _ _ _ => trivial) fun n G' H' x H2 hi a b y => ?_⟩
        obtain ⟨rfl, rfl⟩ := y
        rw [rangeD_length] at hi
        exact ⟨_, G', rangeD_get hi, Tr.refl b, .int _⟩⟩
def enumD (ds : List D) : List D := ds.mapIdx fun i d => .tuple [.int (i : Int), d]
theorem evi_en {elts : List Expr} {kk : Nat} {tpos : Pos} (h : Ev X ρ e (.pu (.list ds))) (hm : X.mg "enumerate" = none) (hg : Gl X "enumerate" := by rfl) (hs : notStar e = true := by rfl) : EvI X ρ (.Tuple elts kk tpos) (.Call (.Name "enumerate" p) [e] [] pos) (enumD ds) :=
  ⟨_, pi_enum hg hm pa_c (star_cons hs), fun σ G H F R k q => by
    refine eva_cons h eva_nil hs σ G H F _ k fun vs G1 H1 f t r _ _ => ?_
    cases r with
    | cons r1 r2 =>
      cases r2
      obtain ⟨_, r1⟩ := r1
      cases r1 with
      | @lst _ xs _ h1 h2 =>
        have hl : (enumD ds).length = ds.length := by simp [enumD]
        refine ⟨_, _, rfl, SqL.of (t.gh _ _ h1), q _ G1 H1 _ _ t (by rw [hl, ← rpAll_length h2]; exact walk_enum) (fun G' H' a b => SqL.of (b _ _ (a _ _ h1))) fun i G' H' x H2 hi a b y => ?_⟩
        obtain ⟨T, x1, x2, rfl, hT, rfl, e1, e2⟩ := y
        rw [hl] at hi
        have hd : ds[i]? = some ds[i] := List.getElem?_eq_getElem hi
        obtain ⟨v, e3, e4⟩ := rpAll_get h2 hd
        have e2 : xs[i]? = some x2 := e2
        have e1 : some (V.int (i : Int)) = some x1 := e1
        rw [e2] at e3; cases e3
        cases e1
        have t2 := Tr.new (o := .tup [.int (i : Int), x2]) b hT
        exact ⟨.tuple [.int (i : Int), ds[i]], _, by simp [enumD, hd], t2, .tup (SqT.of upd_same) (.cons (.int _) (.cons (rp_mono t2.gg (rp_mono a e4)) .nil))⟩⟩
end

/-! ### loops -/
class Own (X : Cx) : Prop where
  own : PassesOwn (model X.prog X.w) X.A X.env X.xe
  stk : X.stack = X.env :: X.outer
  frm : X.env.frame = some X.env.locals
section
variable {X : Cx} {ρ : List (Option RV)} {d : D} {ds : List D} {iter tg c : Expr} {es : List Expr} {pos : Pos} {body sts : List Stmt} {bs : List (List Stmt)} {O : Out → Prop}
/-- what a turn may come to: R: the next turn, B: out of the loop -/
def Turned (R B : List (Option RV) → Prop) (O : Out → Prop) : Out → Prop
  | .nx ρ => R ρ
  | .ct ρ => R ρ
  | .bk ρ => B ρ
  | .rt r => O (.rt r)
  | .ex ρ C => O (.ex ρ C)
theorem svb_for {k : Nat} [Cok k X] [hp : Own X] (R : Nat → List (Option RV) → Prop) (B : List (Option RV) → Prop) (hi : EvI X ρ tg iter ds) (h0 : R 0 ρ)
    (hb : ∀ i d ρ1, ds[i]? = some d → R i ρ1 → ∃ ρ2 js, Tg X ρ1 tg d ρ2 js ∧ Svb X ρ2 [body] (Turned (R (i + 1)) B O)) (hd : ∀ ρ', (R ds.length ρ' ∨ B ρ') → Svb X ρ' (sts :: bs) O)
    (hs : ∀ x, foldedSetIterable iter X.env x = pure x := by intro _; rfl) : Svb X ρ ((.For tg iter body [] pos :: sts) :: bs) O := svb_step fun σ G H F D k q => by
  obtain ⟨wi, hpi, hwi⟩ := hi
  refine cS_of (ps_for hp.own (Cok.calm (X := X)) hpi pg_c pss_c hs) ?_
  refine hwi σ G H F _ k fun J G1 H1 Iv Y t1 W hI hY => ?_
  have t1S : TrS F G H F G1 H1 := t1.toS fun p hp => .inl hp
  refine for_it W (fun i σ' H' => ∃ ρ' G' F', Okk X.K ρ' σ' G' H' F' ∧ R i ρ' ∧ TrS F G1 H1 F' G' H') ⟨ρ, G1, F, k.tr t1, h0, TrS.refl t1.gh⟩ (fun i σ' H' _ ⟨ρ', G', F', k', _, t'⟩ => hI G' H' t'.gg t'.gh) ?_ ?_
  · rintro i x σ' H' H2 hi ⟨ρ', G', F', k', r', t'⟩ y
    obtain ⟨d, G2, e1, t2, rp⟩ := hY i G' H' x H2 hi t'.gg t'.gh y
    obtain ⟨ρ2, js, htg, hbody⟩ := hb i d ρ' e1 r'
    refine htg σ' G2 H2 F' x _ (k'.tr t2) rp fun σ3 F3 k3 s3 _ => ?_
    have t3 : TrS F G1 H1 F3 G2 H2 := t'.trans (t2.toS fun p hp => .inl (s3 p hp))
    refine hbody σ3 G2 H2 F3 { D with nx := _, ct := _, bk := _ } k3 fun o z => ?_
    cases o with
    | nx ρ4 => exact fun σ4 G4 H4 F4 k4 t4 => ⟨ρ4, G4, F4, k4, z, t3.trans t4⟩
    | ct ρ4 => exact fun σ4 G4 H4 F4 k4 t4 => ⟨ρ4, G4, F4, k4, z, t3.trans t4⟩
    | bk ρ4 => exact fun σ4 G4 H4 F4 k4 t4 => hd ρ4 (.inr z) σ4 G4 H4 F4 D k4 fun o' z' => (q o' z').tr (t1S.trans (t3.trans t4))
    | rt r => exact fun v G4 H4 f rp nd t4 => q _ z v G4 H4 f rp nd (t1S.trans (t3.trans t4))
    | ex ρ4 C => exact fun σ4 G4 H4 F4 k4 t4 => q _ z σ4 G4 H4 F4 k4 (t1S.trans (t3.trans t4))
  · rintro σ' H' ⟨ρ', G', F', k', r', t'⟩
    exact hd ρ' (.inl r') σ' G' H' F' D k' fun o' z' => (q o' z').tr (t1S.trans t')
theorem svb_while {k : Nat} [Cok k X] [hp : Own X] (R : Nat → List (Option RV) → Prop) (B : List (Option RV) → Prop) (m0 : Nat) (h0 : R m0 ρ)
    (hs : ∀ m ρ1, R m ρ1 → ∃ t, EvT X ρ1 c t ∧ (t = true → Svb X ρ1 [body] (Turned (fun ρ2 => ∃ m', m' < m ∧ R m' ρ2) B O)) ∧ (t = false → Svb X ρ1 (sts :: bs) O)) (hd : ∀ ρ', B ρ' → Svb X ρ' (sts :: bs) O) :
    Svb X ρ ((.While c body [] pos :: sts) :: bs) O := svb_step fun σ G H F D k q => by
  refine cS_of (ps_while hp.own pt_c pss_c) ?_
  refine ⟨fun m σ' H' => ∃ ρ' G' F', Okk X.K ρ' σ' G' H' F' ∧ R m ρ' ∧ TrS F G H F' G' H', ⟨m0, ρ, G, F, k, h0, TrS.refl k.sub⟩, ?_⟩
  rintro m σ' H' ⟨ρ', G', F', k', r', t'⟩
  obtain ⟨t, hc, h1, h2⟩ := hs m ρ' r'
  refine hc σ' G' H' F' _ k' fun G2 H2 t2 => ?_
  have t3 : TrS F G H F' G2 H2 := t'.trans (t2.toS fun p hp => .inl hp)
  cases t with
  | true =>
    rw [if_pos rfl]
    refine ⟨fun σ3 H3 => ∃ m', m' < m ∧ ∃ ρ' G' F', Okk X.K ρ' σ3 G' H3 F' ∧ R m' ρ' ∧ TrS F G H F' G' H3, fun _ _ z => z, ?_⟩
    refine h1 rfl σ' G2 H2 F' { D with nx := _, ct := _, bk := _ } (k'.tr t2) fun o z => ?_
    cases o with
    | nx ρ4 => exact fun σ4 G4 H4 F4 k4 t4 => let ⟨m', hm, z⟩ := z; ⟨m', hm, ρ4, G4, F4, k4, z, t3.trans t4⟩
    | ct ρ4 => exact fun σ4 G4 H4 F4 k4 t4 => let ⟨m', hm, z⟩ := z; ⟨m', hm, ρ4, G4, F4, k4, z, t3.trans t4⟩
    | bk ρ4 => exact fun σ4 G4 H4 F4 k4 t4 => hd ρ4 z σ4 G4 H4 F4 D k4 fun o' z' => (q o' z').tr (t3.trans t4)
    | rt r => exact fun v G4 H4 f rp nd t4 => q _ z v G4 H4 f rp nd (t3.trans t4)
    | ex ρ4 C => exact fun σ4 G4 H4 F4 k4 t4 => q _ z σ4 G4 H4 F4 k4 (t3.trans t4)
  | false =>
    rw [if_neg Bool.false_ne_true]
    exact h2 rfl σ' G2 H2 F' D (k'.tr t2) fun o' z' => (q o' z').tr t3
end

/-! ### comprehensions -/
abbrev BK (X : Cx) (scope : Scope) (s : Shared) (H : Hp) (C : Addr) (cl : List (Str × Addr)) (fp : List Addr) : Cx := X.blk s H scope (compEnvC scope cl C X.env) fp
instance Cok.blk {k : Nat} {X : Cx} [c : Cok k X] {scope : Scope} {s : Shared} {H : Hp} {C : Addr} {cl : List (Str × Addr)} {fp : List Addr} : Cok k (BK X scope s H C cl fp) := ⟨c.room, c.calm, c.nd⟩
def EvTs (X : Cx) (ρ : List (Option RV)) (ifs : List Expr) (b : Bool) : Prop := ∃ t, PTs X ifs t ∧ ∀ σ G H F (Q : Bool → Hp → Prop), Okk X.K ρ σ G H F → (∀ G' H', Tr G H G' H' → Q b H') → t σ H Q
theorem evts_nil {X : Cx} {ρ : List (Option RV)} : EvTs X ρ [] true := ⟨_, pts_nil, fun σ G H F Q k q => q G H (Tr.refl k.sub)⟩
theorem evts_one {X : Cx} {ρ : List (Option RV)} {c : Expr} {b : Bool} (h : EvT X ρ c b) : EvTs X ρ [c] b := ⟨_, pts_one pt_c, h⟩
def cPTs (X : Cx) (ifs : List Expr) : TT := fun σ H Q => ∀ pins s, Inv X pins σ H s → 
    wpAny (model X.prog X.w) X.A (forIn ifs true fun c r => if r = true then do let ok ← isTrue c X.env (eval c X.env); pure (ForInStep.yield ok) else pure (ForInStep.yield r)) (TP X pins σ Q) X.xe s
end DL

/-! data layer 5: comprehensions, defs and their calls -/
namespace DL
open PySem L2

theorem Tr.updO {G H G' H' : Hp} {p : Addr} {o : HO} (t : Tr G H G' H') (n : H p = none) (g : G' p = none) : Tr G H G' (upd H' p o) :=
  ⟨t.gg, fun a u h => by rw [upd_ne (ne_of_none h g)]; exact t.gh a u h, fun a u h => by rw [upd_ne (ne_of_none h n)]; exact t.keep a u h, t.far⟩
theorem wipe_idem (σ : St) (vs : List Nat) : wipe (wipe σ vs) vs = wipe σ vs := wipe_ext (wipe_length σ vs) fun i hi => by rw [wipe_get, if_neg hi]
section
variable (X : Cx) (scope : Scope)
def cGb (tg : Expr) : TG := fun v σ H Q => ∀ s H0 C cl fp, cG (BK X scope s H0 C cl fp) tg v σ H Q
def cPb (ifs : List Expr) : TT := fun σ H Q => ∀ s H0 C cl fp, cPTs (BK X scope s H0 C cl fp) ifs σ H Q
def cEb (e : Expr) : TE := fun σ H Q => ∀ s H0 C cl fp, cE (BK X scope s H0 C cl fp) e σ H Q
end
theorem pg_cb {X : Cx} {scope : Scope} {tg : Expr} (s : Shared) (H : Hp) (C : Addr) (cl : List (Str × Addr)) (fp : List Addr) : PG (X.blk s H scope (compEnvC scope cl C X.env) fp) tg (cGb X scope tg) := ⟨fun pins s' σ H' v u Q I r h => h s H C cl fp pins s' u I r⟩
theorem pt_cb {X : Cx} {scope : Scope} {ifs : List Expr} (s : Shared) (H : Hp) (C : Addr) (cl : List (Str × Addr)) (fp : List Addr) : PTs (X.blk s H scope (compEnvC scope cl C X.env) fp) ifs (cPb X scope ifs) := ⟨fun pins s' σ H' Q I h => h s H C cl fp pins s' I⟩
theorem pe_cb {X : Cx} {scope : Scope} {e : Expr} (s : Shared) (H : Hp) (C : Addr) (cl : List (Str × Addr)) (fp : List Addr) : PE (X.blk s H scope (compEnvC scope cl C X.env) fp) e (cEb X scope e) := ⟨fun pins s' σ H' Q I h => h s H C cl fp pins s' I⟩
theorem evts_c {X : Cx} {ρ : List (Option RV)} {ifs : List Expr} {b : Bool} (h : EvTs X ρ ifs b) {σ : St} {G H : Hp} {F : List Addr} {Q : Bool → Hp → Prop} (k : Okk X.K ρ σ G H F) (q : ∀ G' H', Tr G H G' H' → Q b H') : cPTs X ifs σ H Q := by
  obtain ⟨t, hp, hq⟩ := h
  exact fun pins s I => hp.run pins s σ H Q I (hq σ G H F Q k q)

section
variable {X : Cx} {ρ : List (Option RV)} {ds : List D} {iter tg elt : Expr} {ifs : List Expr} {scope : Scope} {pos : Pos}
/-- one item of a comprehension: the target, the tests, the element -/
def LcItem (X : Cx) (scope : Scope) (ρ : List (Option RV)) (vs : List Nat) (tg : Expr) (ifs : List Expr) (elt : Expr) (d : D) (o : Option D) : Prop :=
  ∃ ρ2 js, (∀ j ∈ js, j ∈ vs) ∧ (∀ s H C cl fp, Tg (BK X scope s H C cl fp) (wipeR ρ vs) tg d ρ2 js) ∧
    ∃ b, (∀ s H C cl fp, EvTs (BK X scope s H C cl fp) ρ2 ifs b) ∧ (b = true → ∃ y, o = some y ∧ ∀ s H C cl fp, Ev (BK X scope s H C cl fp) ρ2 elt (.pu y)) ∧ (b = false → o = none)
theorem lc_read {k : Nat} [Cok k X] {vs : List Nat} (o : Nat → Option D) (hi : EvI X ρ tg iter ds) (hb : ∀ i d, ds[i]? = some d → LcItem X scope ρ vs tg ifs elt d (o i)) (hz : ds.length ≤ sizeLine) :
    ∃ wi, PI X tg iter wi ∧ ∀ σ G H F (Q : VK), Okk X.K ρ σ G H F → (∀ v G' H' f, Tr G H G' H' → RepR X.K G' H' v (.ls ((List.range ds.length).filterMap o)) f → f.Nodup → (∀ p ∈ f, H p = none) → Q v H') →
      tLc wi (cGb X scope tg) (cPb X scope ifs) (cEb X scope elt) vs σ H Q := by
  obtain ⟨wi, hpi, hwi⟩ := hi
  refine ⟨wi, hpi, fun σ G H F Q k q => ?_⟩
  refine hwi σ G H F _ k fun J G1 H1 Iv Y t1 W hI hY => ?_
  intro Dl hD
  obtain ⟨Fw, kw, kn, ks⟩ := k.sl.wiped vs
  refine lc_it W (fun i H' => ∃ G' acc, H' Dl = some (.lst acc) ∧ G' Dl = none ∧ RpAll X.K G' acc ((List.range i).filterMap o) ∧ Tr G1 H1 G' H') ⟨G1, [], upd_same, sub_none t1.gh hD, .nil, Tr.newO t1.gh hD⟩ (fun i H' _ ⟨G', acc, _, _, _, t'⟩ => hI G' H' t'.gg t'.gh) ?_ ?_
  · rintro i x H' H2 hi ⟨G', acc, e1, e2, e3, t'⟩ y
    obtain ⟨d, G2, ed, t2, rp⟩ := hY i G' H' x H2 hi t'.gg t'.gh y
    obtain ⟨ρ2, js, hjs, htg, b, hts, h1, h0⟩ := hb i d ed
    intro s H0 C cl fp
    have t12 := (t1.trans t').trans t2
    have kk : Okk X.K (wipeR ρ vs) (wipe σ vs) G2 H2 Fw := ⟨t12.gh, kw.tr t12, kn k.nd⟩
    refine htg s H0 C cl fp (wipe σ vs) G2 H2 Fw x _ kk rp fun σ2 F2 k2 s2 w2 => ⟨(w2 vs hjs).trans (wipe_idem σ vs), ?_⟩
    intro s' H0' C' cl' fp'
    refine evts_c (hts s' H0' C' cl' fp') k2 fun G4 H4 t4 => ?_
    have hacc : acc.length ≤ i := by
      rw [rpAll_length e3]
      refine Nat.le_trans (List.length_filterMap_le _ _) ?_
      rw [List.length_range]
      exact Nat.le_refl _
    cases b with
    | true =>
      rw [if_pos rfl]
      obtain ⟨yd, eo, hel⟩ := h1 rfl
      intro s3 H03 C3 cl3 fp3
      refine hel s3 H03 C3 cl3 fp3 σ2 G4 H4 F2 _ (k2.tr t4) fun v G5 H5 f t5 rp5 _ _ => ?_
      obtain ⟨_, rp5⟩ := rp5
      have t25 := (t2.trans t4).trans t5
      refine ⟨acc, t25.keep _ _ e1, by omega, G5, acc ++ [v], upd_same, t25.far _ _ e1 (fun z => z) e2, ?_, (t'.trans t25).updO hD (t25.far _ _ e1 (fun z => z) e2)⟩
      rw [List.range_succ, List.filterMap_append]
      refine rpAll_app (rpAll_mono t25.gg e3) ?_
      rw [List.filterMap_cons, eo]
      exact rpAll_one rp5
    | false =>
      rw [if_neg Bool.false_ne_true]
      have t24 := t2.trans t4
      refine ⟨G4, acc, t24.keep _ _ e1, t24.far _ _ e1 (fun z => z) e2, ?_, t'.trans t24⟩
      rw [List.range_succ, List.filterMap_append, List.filterMap_cons, h0 rfl]
      simpa using rpAll_mono t24.gg e3
  · rintro H' ⟨G', acc, e1, e2, e3, t'⟩
    exact q _ G' H' [Dl] (t1.trans t') ⟨Dl, acc, rfl, rfl, e1, e2, e3⟩ (by simp) fun p hp => by
      have e : p = Dl := by simpa using hp
      rw [e]; exact t1.back hD
/-- [elt for tg in iter if ..] -/
theorem ev_lcG {k : Nat} [Cok k X] (own : List (Str × Nat)) (o : Nat → Option D) (hi : EvI X ρ tg iter ds) (ok : BlkOk X.N X.env.scope scope own) (hb : ∀ i d, ds[i]? = some d → LcItem X scope ρ (own.map (·.2)) tg ifs elt d (o i)) (hz : ds.length ≤ sizeLine)
    (hs : ∀ x, foldedSetIterable iter X.env x = pure x := by intro _; rfl) : Ev X ρ (.ListComp elt [⟨tg, iter, ifs, 0⟩] scope pos) (.ls ((List.range ds.length).filterMap o)) := fun σ G H F Q k q => by
  obtain ⟨wi, hpi, h⟩ := lc_read (X := X) (vs := own.map (·.2)) o hi hb hz
  exact cE_of (pe_lc (Cok.calm (X := X)) (Cok.nd (X := X)) hpi ok pg_cb pt_cb pe_cb hs) (h σ G H F Q k q)
theorem range_map {α : Type} (xs : List α) (f : α → Option D) : (List.range xs.length).filterMap (fun i => xs[i]?.bind f) = xs.filterMap f := by
  induction xs with
  | nil => rfl
  | cons x xs ih =>
    rw [List.length_cons, List.range_succ_eq_map, List.filterMap_cons, List.filterMap_map, List.filterMap_cons]
    have e : ((fun i => (x :: xs)[i]?.bind f) ∘ Nat.succ) = fun i => xs[i]?.bind f := by
      funext i
      simp
    rw [e, ih]
    rfl
/-- .. over the items xs, told as enc: what f makes of each -/
theorem ev_lc {k : Nat} [Cok k X] {α : Type} {xs : List α} {enc : α → D} (own : List (Str × Nat)) (f : α → Option D) (hi : EvI X ρ tg iter (xs.map enc)) (ok : BlkOk X.N X.env.scope scope own) (hb : ∀ x ∈ xs, LcItem X scope ρ (own.map (·.2)) tg ifs elt (enc x) (f x))
    (hz : xs.length ≤ sizeLine) (hs : ∀ x, foldedSetIterable iter X.env x = pure x := by intro _; rfl) : Ev X ρ (.ListComp elt [⟨tg, iter, ifs, 0⟩] scope pos) (.ls (xs.filterMap f)) := by
  have h := ev_lcG (X := X) (ρ := ρ) (pos := pos) own (fun i => xs[i]?.bind f) hi ok (fun i d e => by
    rw [List.getElem?_map] at e
    cases q : xs[i]? with
    | none => rw [q] at e; cases e
    | some x =>
      rw [q] at e
      cases e
      exact hb x (List.mem_of_getElem? q)) (by rw [List.length_map]; exact hz) hs
  rw [List.length_map, range_map] at h
  exact h
/-- y = [..] -/
theorem svb_setlcG {k : Nat} [Cok k X] {y : Str} {py spos : Pos} {sts : List Stmt} {bs : List (List Stmt)} {O : Out → Prop} (i : Nat) (own : List (Str × Nat)) (o : Nat → Option D) (hi : EvI X ρ tg iter ds) (ok : BlkOk X.N X.env.scope scope own)
    (hb : ∀ i d, ds[i]? = some d → LcItem X scope ρ (own.map (·.2)) tg ifs elt d (o i)) (hz : ds.length ≤ sizeLine) (h : Svb X (ρ.set i (some (.ls ((List.range ds.length).filterMap o)))) (sts :: bs) O) (hlt : i < ρ.length := by decide) (hN : X.N[i]? = some y := by rfl)
    (hyl : X.env.scope.names.lookup y = some .local := by rfl) (hsw : swapsWith (.ListComp elt [⟨tg, iter, ifs, 0⟩] scope pos) (some (.Name y py)) spos.line X.env = pure true := by exact sw_true rfl rfl rfl (by decide +kernel))
    (hs : ∀ x, foldedSetIterable iter X.env x = pure x := by intro _; rfl) : Svb X ρ ((.Assign [.Name y py] (.ListComp elt [⟨tg, iter, ifs, 0⟩] scope pos) spos :: sts) :: bs) O := svb_step fun σ G H F D k q => by
  obtain ⟨wi, hpi, hr⟩ := lc_read (X := X) (vs := own.map (·.2)) o hi hb hz
  refine cS_of (ps_setLc (Cok.calm (X := X)) (Cok.nd (X := X)) hN hyl hsw hpi ok pg_cb pt_cb pe_cb hs) ?_
  refine hr σ G H F _ k fun v G' H' f t rp nd fr => ?_
  obtain ⟨F', k', t'⟩ := k.store t hlt rp nd fr
  exact h _ G' H' F' D k' fun o z => (q o z).tr t'
theorem svb_setlc {k : Nat} [Cok k X] {α : Type} {xs : List α} {enc : α → D} {y : Str} {py spos : Pos} {sts : List Stmt} {bs : List (List Stmt)} {O : Out → Prop} (i : Nat) (own : List (Str × Nat)) (f : α → Option D) (hi : EvI X ρ tg iter (xs.map enc)) (ok : BlkOk X.N X.env.scope scope own)
    (hb : ∀ x ∈ xs, LcItem X scope ρ (own.map (·.2)) tg ifs elt (enc x) (f x)) (hz : xs.length ≤ sizeLine) (h : Svb X (ρ.set i (some (.ls (xs.filterMap f)))) (sts :: bs) O) (hlt : i < ρ.length := by decide) (hN : X.N[i]? = some y := by rfl)
    (hyl : X.env.scope.names.lookup y = some .local := by rfl) (hsw : swapsWith (.ListComp elt [⟨tg, iter, ifs, 0⟩] scope pos) (some (.Name y py)) spos.line X.env = pure true := by exact sw_true rfl rfl rfl (by decide +kernel))
    (hs : ∀ x, foldedSetIterable iter X.env x = pure x := by intro _; rfl) : Svb X ρ ((.Assign [.Name y py] (.ListComp elt [⟨tg, iter, ifs, 0⟩] scope pos) spos :: sts) :: bs) O := by
  refine svb_setlcG i own (fun i => xs[i]?.bind f) hi ok (fun i d e => ?_) (by rw [List.length_map]; exact hz) ?_ hlt hN hyl hsw hs
  · rw [List.getElem?_map] at e
    cases q : xs[i]? with
    | none => rw [q] at e; cases e
    | some x =>
      rw [q] at e
      cases e
      exact hb x (List.mem_of_getElem? q)
  · rw [List.length_map, range_map]
    exact h
/-- an item without tests -/
theorem lci {vs : List Nat} {d y : D} {ρ2 : List (Option RV)} {js : List Nat} (ht : ∀ s H C cl fp, Tg (BK X scope s H C cl fp) (wipeR ρ vs) tg d ρ2 js) (he : ∀ s H C cl fp, Ev (BK X scope s H C cl fp) ρ2 elt (.pu y)) (hj : ∀ j ∈ js, j ∈ vs := by decide) :
    LcItem X scope ρ vs tg [] elt d (some y) := ⟨ρ2, js, hj, ht, true, fun _ _ _ _ _ => evts_nil, fun _ => ⟨y, rfl, he⟩, fun e => by cases e⟩
/-- .. with one test -/
theorem lci1 {vs : List Nat} {d : D} {c : Expr} {b : Bool} {y : D} {ρ2 : List (Option RV)} {js : List Nat} (ht : ∀ s H C cl fp, Tg (BK X scope s H C cl fp) (wipeR ρ vs) tg d ρ2 js) (hc : ∀ s H C cl fp, EvT (BK X scope s H C cl fp) ρ2 c b)
    (he : b = true → ∀ s H C cl fp, Ev (BK X scope s H C cl fp) ρ2 elt (.pu y)) (hj : ∀ j ∈ js, j ∈ vs := by decide) :
    LcItem X scope ρ vs tg [c] elt d (if b = true then some y else none) := ⟨ρ2, js, hj, ht, b, fun s H C cl fp => evts_one (hc s H C cl fp), fun e => ⟨y, if_pos e, he e⟩, fun e => by rw [e]; rfl⟩
end

/-! ### defs -/
/-- what a call comes to: an answer, or an error of the class C -/
inductive Ans where
  | ok (r : RV) | er (C : Addr)
/-- S args a: called with what args tell, the def comes to a -/
def spOf (K : PySem.W.Frag) (S : List RV → Ans → Prop) : Sp := fun vs H Q E => ∃ args a G f, S args a ∧ Same G H ∧ RepRs K G H vs args f ∧ f.Nodup ∧
  match a with
  | .ok res => ∀ v G' H' f', TrS f G H f' G' H' → RepR K G' H' v res f' → f'.Nodup → Q v H'
  | .er C => ∀ G' H', TrS f G H [] G' H' → E (.ref C) none H'
structure Callee (P : Program) (w : World) (K : PySem.W.Frag) (mg : Str → Option Value) (base : Heap) (j : Nat) (x : Str) (ps : List Str) (S : List RV → Ans → Prop) : Prop where
  ex : ∃ f fd, FnOk P w K mg base (CX P w) j f fd ps (spOf K S) ∧ mg x = some (.ref f) ∧ PySem.W.keepIn K (.ref f) = true ∧ Binds K fd ps []
/-- e lets out an error of the class C -/
def Ex (X : Cx) (ρ : List (Option RV)) (e : Expr) (C : Addr) : Prop := ∀ σ G H F (Q : VK), Okk X.K ρ σ G H F → (∀ G' H', Tr G H G' H' → WM X (.ref C) none σ H') → cE X e σ H Q
section
variable {X : Cx} {ρ : List (Option RV)} {ds : List D} {e : Expr} {es : List Expr} {p pos : Pos} {x : Str} {ps : List Str} {S : List RV → Ans → Prop} {args : List RV} {res : RV} {C : Addr}
theorem star_any {env : Env} : ∀ {es : List Expr}, es.all notStar = true → (backTo pos (starEach es env)).any (·.1) = false
  | [], _ => rfl
  | e :: es, h => by
    simp only [List.all_cons, Bool.and_eq_true] at h
    rw [star_cons h.1]
    show (false || (backTo pos (starEach es env)).any (·.1)) = false
    rw [star_any h.2]; rfl
/-- the callee runs; an error of it is in the air of X -/
theorem run_err {k : Nat} {f : Addr} {fd : FuncData} {sp : Sp} {E : XK} {pins : List (Addr × Obj)} {σ : St} {H : Hp} {s : Shared} {Q : VK} {us : List Value} {vs : List V} (F : FnOk X.prog X.w X.K X.mg X.base (CX X.prog X.w) k f fd ps sp) (hr : Room k X.A) (hb : Binds X.K fd ps [])
    (hx : ∀ cls d H', E cls d H' → WM X cls d σ H') (I : Inv X pins σ H s) (r : Vals vs us) (h : sp vs H Q E) : wpAny (model X.prog X.w) X.A (call (.ref f) us) (EP X pins σ Q) X.xe s := by
  have hl : (us ++ []).length = ps.length := by rw [List.append_nil, ← r.length]; exact F.len _ _ _ _ h
  have hbd := hb s us I.kIn hl
  rw [List.append_nil] at hbd
  refine wpAny_call (codeAny_mono (F.run X.A X.stack s H ⟨us, []⟩ us vs Q E hr I.env0 hbd r h) fun a s' ha => ?_)
  rcases a with e | (u | _ | _ | _)
  · exact takesM e s' (XE.of_call I hx ha)
  all_goals first
    | exact I.after ha
    | exact ha.elim
theorem rs_of {K : PySem.W.Frag} {G H : Hp} : ∀ {vs : List V} {ds : List D}, RpAll K G vs ds → RepRs K G H vs (ds.map RV.pu) []
  | _, _, .nil => .nil
  | _, _, .cons h r => .cons (f := []) (g := []) ⟨rfl, h⟩ (rs_of r)
/-- f(e, ..): its wish -/
theorem c_call {k j : Nat} [Cok k X] {σ : St} {H : Hp} {Q : VK} {E : XK} {f : Addr} {fd : FuncData} {sp : Sp} (F1 : FnOk X.prog X.w X.K X.mg X.base (CX X.prog X.w) j f fd ps sp) (hm : X.mg x = some (.ref f)) (hk : PySem.W.keepIn X.K (.ref f) = true) (hb : Binds X.K fd ps [])
    (ha : cA X (e :: es) σ H fun vs H1 => sp vs H1 Q E) (hx : ∀ cls d H', E cls d H' → WM X cls d σ H') (hj : j ≤ k := by decide) (hg : Gl X x := by rfl) (hst : (e :: es).all notStar = true := by rfl) (hdb : (x == ("__debug__" : Str)) = false := by decide) :
    cE X (.Call (.Name x p) (e :: es) [] pos) σ H Q := by
  have h2 : notStar e = true ∧ es.all notStar = true := by simpa using hst
  intro pins s I
  refine wpAny_Call_Name_kw (ld_glob I hg hm ?_ hdb)
  refine PySem.W.callWith_K (h₀ := X.base) I.ok.mod.kin hk (thn (ha pos pins s I) fun us s1 ⟨vs, H1, I1, r, q⟩ => ⟨I1.kIn, ?_⟩) (star_cons h2.1) (star_any h2.2)
  exact run_err F1 ((Cok.room (X := X)).mono hj) hb hx I1 r q
theorem ev_call {k j : Nat} [Cok k X] (C : Callee X.prog X.w X.K X.mg X.base j x ps S) (ha : EvAs X ρ (e :: es) args) (hS : S args (.ok res)) (hj : j ≤ k := by decide) (hg : Gl X x := by rfl) (hst : (e :: es).all notStar = true := by rfl) (hdb : (x == ("__debug__" : Str)) = false := by decide) :
    Ev X ρ (.Call (.Name x p) (e :: es) [] pos) res := fun σ G H F Q k q => by
  obtain ⟨f, fd, F1, hm, hk, hb⟩ := C.ex
  refine c_call (E := fun _ _ _ => False) F1 hm hk hb ?_ (fun _ _ _ z => z.elim) hj hg hst hdb
  refine ha σ G H F _ k fun vs G1 H1 f t rs nd fr => ⟨args, .ok res, G1, f, hS, t.gh, rs, nd, fun v G' H' f' t' rp nd' => ?_⟩
  have no : ∀ a o, H a = some o → a ∉ f := fun a o h z => by have := fr a z; rw [h] at this; cases this
  refine q v G' H' f' ⟨t.gg.trans t'.gg, t'.gh, fun a o h => t'.keep a o (t.keep a o h) (no a o h), fun a o h i g => t'.far a o (t.keep a o h) (no a o h) i (t.far a o h i g)⟩ rp nd' fun p hp => ?_
  rcases t'.own p hp with z | z
  · exact fr p z
  · exact t.back z
/-- .. it lets out an error -/
theorem ex_call {k j : Nat} [Cok k X] {B : Addr} (C : Callee X.prog X.w X.K X.mg X.base j x ps S) (ha : EvAs X ρ (e :: es) args) (hS : S args (.er B)) (hj : j ≤ k := by decide) (hg : Gl X x := by rfl) (hst : (e :: es).all notStar = true := by rfl) (hdb : (x == ("__debug__" : Str)) = false := by decide) :
    Ex X ρ (.Call (.Name x p) (e :: es) [] pos) B := fun σ G H F Q k q => by
  obtain ⟨f, fd, F1, hm, hk, hb⟩ := C.ex
  refine c_call (E := fun cls d H' => WM X cls d σ H') F1 hm hk hb ?_ (fun _ _ _ z => z) hj hg hst hdb
  refine ha σ G H F _ k fun vs G1 H1 f t rs nd fr => ⟨args, .er B, G1, f, hS, t.gh, rs, nd, fun G' H' t' => ?_⟩
  have no : ∀ a o, H a = some o → a ∉ f := fun a o h z => by have := fr a z; rw [h] at this; cases this
  exact q G' H' ⟨t.gg.trans t'.gg, t'.gh, fun a o h => t'.keep a o (t.keep a o h) (no a o h), fun a o h i g => t'.far a o (t.keep a o h) (no a o h) i (t.far a o h i g)⟩
/-- .. where the arguments may be lists of one's own, and the answer is data without lists -/
theorem ev_callP {k j : Nat} [Cok k X] {d : D} (C : Callee X.prog X.w X.K X.mg X.base j x ps S) (ha : EvAP X ρ (e :: es) ds) (hS : S (ds.map RV.pu) (.ok (.pu d))) (hd : imm d = true) (hj : j ≤ k := by decide) (hg : Gl X x := by rfl) (hst : (e :: es).all notStar = true := by rfl) (hdb : (x == ("__debug__" : Str)) = false := by decide) :
    Ev X ρ (.Call (.Name x p) (e :: es) [] pos) (.pu d) := fun σ G H F Q k q => by
  obtain ⟨f, fd, F1, hm, hk, hb⟩ := C.ex
  refine c_call (E := fun _ _ _ => False) F1 hm hk hb ?_ (fun _ _ _ z => z.elim) hj hg hst hdb
  refine ha σ G H F _ k fun vs G1 H1 t rs => ⟨ds.map RV.pu, .ok (.pu d), H1, [], hS, Same.refl _, rs_of rs, by simp, fun v G' H' f' t' rp nd' => ?_⟩
  obtain ⟨_, rp⟩ := rp
  have t2 : Tr G1 H1 G1 H' := ⟨Same.refl _, fun a o h => t'.keep a o (t.gh a o h) (by simp), fun a o h => t'.keep a o h (by simp), fun _ _ _ _ g => g⟩
  exact q v _ H' [] (t.trans t2).plusT ⟨rfl, rp_imm (t.trans t2).gh hd (rp_mono t'.gh rp)⟩ (by simp) (by simp)
theorem ex_callP {k j : Nat} [Cok k X] {B : Addr} (C : Callee X.prog X.w X.K X.mg X.base j x ps S) (ha : EvAP X ρ (e :: es) ds) (hS : S (ds.map RV.pu) (.er B)) (hj : j ≤ k := by decide) (hg : Gl X x := by rfl) (hst : (e :: es).all notStar = true := by rfl) (hdb : (x == ("__debug__" : Str)) = false := by decide) :
    Ex X ρ (.Call (.Name x p) (e :: es) [] pos) B := fun σ G H F Q k q => by
  obtain ⟨f, fd, F1, hm, hk, hb⟩ := C.ex
  refine c_call (E := fun cls d H' => WM X cls d σ H') F1 hm hk hb ?_ (fun _ _ _ z => z) hj hg hst hdb
  refine ha σ G H F _ k fun vs G1 H1 t rs => ⟨ds.map RV.pu, .er B, H1, [], hS, Same.refl _, rs_of rs, by simp, fun G' H' t' => ?_⟩
  have t2 : Tr G1 H1 G1 H' := ⟨Same.refl _, fun a o h => t'.keep a o (t.gh a o h) (by simp), fun a o h => t'.keep a o h (by simp), fun _ _ _ _ g => g⟩
  exact q G1 H' (t.trans t2)
end

/-! ### statements that let an error out -/
section
variable {X : Cx} {ρ : List (Option RV)} {O : Out → Prop} {sts : List Stmt} {bs : List (List Stmt)} {e : Expr} {p pos pos2 : Pos} {C : Addr}
theorem svb_exprX (he : Ex X ρ e C) (h : O (.ex ρ C)) (hs : swapsWith e none pos.line X.env = pure false := by rfl) : Svb X ρ ((.Expr e pos :: sts) :: bs) O := svb_step fun σ G H F D k q => by
  refine cS_of (ps_expr pe_c hs) ?_
  exact he σ G H F _ k fun G' H' t => q _ h σ G' H' F (k.tr t) (t.toS fun p hp => .inl hp)
theorem svb_retX (he : Ex X ρ e C) (h : O (.ex ρ C)) : Svb X ρ ((.Return (some e) pos :: sts) :: bs) O := svb_step fun σ G H F D k q => cS_of (ps_ret pe_c)
  (he σ G H F _ k fun G' H' t => q _ h σ G' H' F (k.tr t) (t.toS fun p hp => .inl hp))
theorem svb_setX {k : Nat} [Cok k X] {y : Str} {py : Pos} (i : Nat) (he : Ex X ρ e C) (h : O (.ex ρ C)) (hN : X.N[i]? = some y := by rfl)
    (hl : Loc X.env.scope y := by first | exact Or.inl rfl | exact Or.inr rfl) (hs : swapsWith e (some (.Name y py)) pos.line X.env = pure false := by rfl) (hf : X.fn y = true ∨ X.env.scope.names.lookup y = some .local := by first | exact .inl rfl | exact .inr rfl) :
    Svb X ρ ((.Assign [.Name y py] e pos :: sts) :: bs) O := svb_step fun σ G H F D k q => by
  refine cS_of (ps_set (Cok.nd (X := X)) hN hl pe_c hs hf) ?_
  exact he σ G H F _ k fun G' H' t => q _ h σ G' H' F (k.tr t) (t.toS fun p hp => .inl hp)
/-- raise BadX(), the class's call by mk -/
theorem svb_raise {k : Nat} [Cok k X] (mk : PMk X e fun _ H Q => Q (.ref C) none H) (h : O (.ex ρ C)) : Svb X ρ ((.Raise (some e) none pos :: sts) :: bs) O := svb_step fun σ G H F D k q =>
  cS_of (ps_raise (Cok.calm (X := X)) takesM mk) (q _ h σ G H F k (TrS.refl k.sub))
end

/-- the context of a def's body -/
def BX (P : Program) (w : World) (K : PySem.W.Frag) (mg : Str → Option Value) (base : Heap) (N : List Str) (qual : Str) (sc : Scope) (f : Addr) (cdv : Value) (A : Around) (outer : List Env) (s : Shared) (H : Hp) (E : XK) : Cx :=
  cxOf (CX P w) P w K mg base N qual sc f cdv A outer s H E
instance {P : Program} {w : World} {K : PySem.W.Frag} {mg : Str → Option Value} {base : Heap} {N : List Str} {qual : Str} {sc : Scope} {f : Addr} {cdv : Value} {A : Around} {outer : List Env} {s : Shared} {H : Hp} {E : XK} : Own (BX P w K mg base N qual sc f cdv A outer s H E) := ⟨passes_of rfl, rfl, rfl⟩
section
variable {P : Program} {w : World} {K : PySem.W.Frag} {mg : Str → Option Value} {base : Heap} {x qual : Str} {st : Stmt} {f : Addr} {fd : FuncData} {N ps : List Str} {k : Nat} {S : List RV → Ans → Prop}
theorem sl_start {K : PySem.W.Frag} {G H : Hp} {vs : List V} {rs : List RV} {f : List Addr} (h : RepRs K G H vs rs f) (n : Nat) : Sl K G H (rs.map some ++ List.replicate n none) (vs.map some ++ List.replicate n none) f := by
  induction h with
  | nil =>
    induction n with
    | zero => exact .nil
    | succ n ih => exact .any ih
  | cons h _ ih => exact .has h ih
/-- what a body must come to: S's answer -/
def Ends1 (a : Ans) : Out → Prop
  | .rt r => a = .ok r
  | .nx _ => a = .ok (.pu .none)
  | .ex _ C => a = .er C
  | _ => False
/-- THE RULE for a def: its body -/
theorem callee_of (F : Fun K x qual st f fd) (hm : mg x = some (.ref f)) (sc : FnScope N ps (defScope st))
    (hb : ∀ (kV doc pm : Value) (an : Option Addr) (cdv ct : Value) (us : List Value), us.length = ps.length → bindArgs (PySem.W.fnOf x qual (defArgs st) (defBody st) (defScope st) .none kV doc pm an cdv ct) ⟨us, []⟩ = pure (ps.zip us))
    (hlen : ∀ args a, S args a → args.length = ps.length)
    (body : ∀ (cdv : Value) (A : Around) (outer : List Env) (s : Shared) (H : Hp) (E : XK), Cok k (BX P w K mg base N qual (defScope st) f cdv A outer s H E) → ∀ args a, S args a →
      Svb (BX P w K mg base N qual (defScope st) f cdv A outer s H E) (args.map some ++ List.replicate (N.length - args.length) none) [defBody st] (Ends1 a)) :
    Callee P w K mg base (k + 1) x ps S := by
  refine ⟨f, fd, F.okX sc (fun vs H Q E h => ?_) (fun cdv A outer s H vs Q E hr h => ?_), hm, F.kp, F.binds hb⟩
  · obtain ⟨args, a, G, f', hS, _, rs, _⟩ := h
    rw [rs.len, hlen args a hS]
  · obtain ⟨args, a, G, f', hS, sub, rs, nd, q⟩ := h
    refine ⟨cSs (BX P w K mg base N qual (defScope st) f cdv A outer s H E) (defBody st), pss_c, ?_⟩
    have c : Cok k (BX P w K mg base N qual (defScope st) f cdv A outer s H E) := ⟨hr, rfl, sc.nd⟩
    have sl := sl_start rs (N.length - args.length)
    have e : L2.start N vs = vs.map some ++ List.replicate (N.length - args.length) none := by unfold L2.start; rw [rs.len]
    rw [e]
    refine body cdv A outer s H E c args a hS _ G H f' { nx := fun _ H' => Q .non H', rt := Q } ⟨sub, sl, nd⟩ fun o z => ?_
    cases o with
    | rt r =>
      have z : a = .ok r := z
      subst z
      exact fun v G' H' f2 rp n2 t => q v G' H' f2 t rp n2
    | nx ρ =>
      have z : a = .ok (.pu .none) := z
      subst z
      exact fun σ' G' H' F' k' t => q .non G' H' [] (t.mono (by simp)) ⟨rfl, .non⟩ (by simp)
    | ex ρ C =>
      have z : a = .er C := z
      subst z
      exact fun σ' G' H' F' k' t => WM.of (W := fun cls d _ H => E cls d H) (takes_of rfl rfl rfl rfl) (q G' H' (t.mono (by simp)))
    | bk ρ => exact z.elim
    | ct ρ => exact z.elim
end
end DL

/-! own errors whose __init__ says super().__init__(a text) -/
namespace DL
open PySem L2

def eA (p1 : Pos) : Arguments := { posonlyargs := [], args := [{ arg := "self", annotation := none, pos := p1 }], vararg := none, kwonlyargs := [], kw_defaults := [], kwarg := none, defaults := [] }
def eB (txt : Str) (j : Nat) (q1 q2 q3 q4 q5 q6 : Pos) : List Stmt := [.Expr (.Call (.Attribute (.Call (.Name "super" q1) [] [] q2) "__init__" q3) [.Constant (.str txt) j q4] [] q5) q6]
def eS : Scope := { kind := .function, names := [(PySem.Str.ofString "self", .local), (PySem.Str.ofString "__class__", .free), (PySem.Str.ofString "super", .globalImplicit)], isGenerator := false, isCoroutine := false, more := [] }
/-- what the written part says of such an error's class at C, of its __init__ at fI -/
structure ErrT (P : Program) (K : PySem.W.Frag) (C fI : Addr) : Prop where
  cls : ∃ nm q N bs bm sn sub ab col dd k0 k1 k2 k3 k5, K.lookup C = some (excClassObj nm q C N bs bm true sn sub ab col dd k0 k1 k2 k3 k5 "ValueError.__new__") ∧ PySem.HandSPX.refsVE bm = true ∧ PySem.W.alongIn K "__init__" bm = some (some (.builtin "ValueError.__init__"))
  iC : PySem.W.findIn K (.ref C) "__init__" = some (some (.ref fI))
  tC : PySem.W.typeIn K (.ref fI) = some (.type "function")
  kC : PySem.W.keepIn K (.ref C) = true
  exC : PySem.W.subIn K (.ref C) (.type "BaseException") = some true
  veC : PySem.W.subIn K (.ref C) (.type "ValueError") = some true
  tyC : PySem.W.typeIn K (.ref C) = some (.type "type")
  me : PySem.W.mroIn K C (.ref C) = some true
  st : PySem.W.nsIn K cStatics "thirdparty.any" = some none
  fn : ∃ (oc : Value) (od : Option Addr) (qual : Str) (doc pm : Value) (an : Option Addr) (ct : Value) (cda cc : Addr) (osl : Array (Option Value)) (txt : Str) (j : Nat) (p1 q1 q2 q3 q4 q5 q6 : Pos),
    K.lookup fI = some ⟨oc, od, .func (PySem.W.ksFn "__init__" qual (eA p1) (eB txt j q1 q2 q3 q4 q5 q6) eS .none .none doc pm an (.ref cda) ct cc), osl⟩ ∧ (q3.endLine == q5.line) = true ∧ PySem.W.codeIn K (.ref cda) qual = true ∧
    (∃ ccl cdd vs ccs file tf, K.lookup cda = some ⟨ccl, cdd, .fields vs, ccs⟩ ∧ vs[2]? = some (.str file tf) ∧ ((P.main.file : Str) == file) = true) ∧
    ∃ cl cld csl, K.lookup cc = some ⟨cl, cld, .cell (some (.ref C)), csl⟩
  top : (P.main.scope.names.lookup ("super" : Str)).isSome = false

theorem he_super {q1 q2 q3 q4 q5 : Pos} {txt : Str} {j : Nat} {env : Env} (hp : (q3.endLine == q5.line) = true) : eval (.Call (.Attribute (.Call (.Name "super" q1) [] [] q2) "__init__" q3) [.Constant (.str txt) j q4] [] q5) env = (do
      let ov ← attributeBase (.Call (.Name "super" q1) [] [] q2) "__init__" env (eval (.Call (.Name "super" q1) [] [] q2) env)
      standAt q3.atName
      let (f, first) ← holding [ov] (getMethod ov "__init__" (do return (← importBound (.Call (.Name "super" q1) [] [] q2) env).getD true))
      callWith q5 f first (backTo q5 (starEach [.Constant (.str txt) j q4] env)) []) := by
  have e : methodCallPos true (.Call (.Name "super" q1) [] [] q2) env q3 q5 = pure q5 := by
    unfold methodCallPos
    rw [hp]; rfl
  show (do
      let ov ← attributeBase (.Call (.Name "super" q1) [] [] q2) "__init__" env (eval (.Call (.Name "super" q1) [] [] q2) env)
      standAt q3.atName
      let (f, first) ← holding [ov] (getMethod ov "__init__" (do return (← importBound (.Call (.Name "super" q1) [] [] q2) env).getD true))
      let callPos ← methodCallPos true (.Call (.Name "super" q1) [] [] q2) env q3 q5
      callWith callPos f first (backTo q5 (starEach [.Constant (.str txt) j q4] env)) []) = _
  rw [e]
  rfl
theorem drop_self (C : Addr) (l : List Value) : ((Value.ref C :: l).dropWhile (· != .ref C)).drop 1 = l := by
  simp [List.dropWhile_cons]
/-- a made error -/
structure Made (h h' : Heap) (e C : Addr) : Prop where
  keep : ∀ b o, h.get? b = some o → h'.get? b = some o
  new : h.objs.size ≤ e
  obj : ∃ t1 : Addr, h'.get? e = some (PySem.HandSPX.excO C t1)

section
open PySem.W PySem.Calls PyProof.Rows PySem.HandSPX
variable {prog : Program} {w : World} {A : Around} {E : Value → Shared → Prop} {R : Result → Shared → Prop} {s : Shared} {K : Frag} {mg : Str → Option Value} {base : Heap} {C fI : Addr}
/-- the call of the bound __init__ of ValueError -/
theorem mw_call {u e t0 : Addr} {rest : List Value} {Q : Value → Shared → Prop} {nm q : Str} {N : Addr} {bs bm : List Value} {hdct : Bool} {sn : List Str} {sub : List Value} {ab : Bool} {col : Option Bool} {dd : Option Addr} {k0 k1 k2 k3 k5 : Option Value}
    (hC : s.heap.get? C = some (excClassObj nm q C N bs bm hdct sn sub ab col dd k0 k1 k2 k3 k5 "ValueError.__new__")) (he : s.heap.get? e = some (excO C t0)) (hu : s.heap.get? u = some (kxs_mw "ValueError.__init__" e)) (hz : rest.length ≤ sizeLine)
    (hq : ∀ h' t1, (∀ b o, b ≠ e → s.heap.get? b = some o → h'.get? b = some o) → h'.get? e = some (excO C t1) → Q .none { s with heap := h' }) :
    wpAny (model prog w) A (call (.ref u) rest) Q E s := by
  obtain ⟨hh, g, d, tk, os⟩ := s
  refine wpAny_call (codeAny_of_tree ?_)
  show wpAny _ A.in1 (callAny (.ref u) ⟨rest, []⟩) _ _ _
  simp only [callAny]
  refine wpAny_bind (wpAny_load hu ?_)
  simp only [kxs_mw, show (Value.type "method-wrapper" == Value.type "method" || Value.type "method-wrapper" == Value.type "builtin_function_or_method" || Value.type "method-wrapper" == Value.type "method-wrapper") = true by decide, if_true]
  refine KFB.if_so (by decide) ?_
  refine wpAny_bind (check_bound_init F.excBase_ValueError.toExcCallFacts hC he rfl ?_)
  refine wpAny_bind (wpAny_pure (wpAny_pure ?_))
  refine ⟨plainId_quiet F.excBase_ValueError.init.plain _, codeAny_builtin F.excBase_ValueError.initEntry ?_⟩
  exact exc_init_tree (cls := .ref C) (t0 := t0) (dv := none) (c2 := .none) (c3 := .none) (b4 := .bool false) he hz fun h' k e' _ => hq h' _ k e'
/-- __init__ itself -/
theorem err_init (T : ErrT prog K C fI) (M : Mod K mg base) (hbs : ∀ b o, base.get? b = some o → s.heap.get? b = some o) (hsup : mg "super" = none) {x t0 : Addr} (hx : s.heap.get? x = some (excO C t0)) (hnx : base.get? x = none) (hroom : A.depth < recursionLimit)
    (hq : ∀ h' tk t1, (∀ b o, b ≠ x → s.heap.get? b = some o → h'.get? b = some o) → h'.get? x = some (excO C t1) → R (.ok (.ret .none)) { s with heap := h', toks := tk }) :
    codeAny (model prog w) A (.call (.ref fI) ⟨[.ref x], []⟩) R s := by
  obtain ⟨oc, od, qual, doc, pm, an, ct, cda, cc, osl, txt, j, p1, q1, q2, q3, q4, q5, q6, ho, hpos, hcd, ⟨ccl, cdd, vs, ccs, file, tf, hcda, hvs, hfile⟩, cl, cld, csl, hcc⟩ := T.fn
  obtain ⟨nm, q, N, bs, bm, sn, sub, ab, col, dd, k0, k1, k2, k3, k5, hC, hbm, hal⟩ := T.cls
  have X : K.In s.heap := M.kin.keeps hbs
  have lim : s.heap.NoLimit := M.nolimit.keeps hbs
  have hcl : clsIn K C = some { name := nm, bases := bs, mro := .ref C :: bm, ns := N, qualname := q, hasDict := true, slotNames := sn, subclasses := sub, abstract := ab, collection := col, hasDel := false } := by unfold clsIn; rw [hC] <;> rfl
  refine ks_codeAny_call_defAt (binds := [("self", .ref x)]) hroom (X _ _ ho) rfl lim (codeRec_of X hcd) rfl (BindsTo.of_eq (by first | rfl | with_unfolding_all rfl)) (show ∀ y ∈ eS.names, y.2 ≠ .cell by decide) (fun y hy => by cases List.mem_singleton.mp hy; rfl) (fun h₁ hns k => ?_) rfl rfl rfl
  have hbs₁ : ∀ b o, base.get? b = some o → h₁.get? b = some o := fun b o e => k b o (hbs b o e)
  have X₁ : K.In h₁ := X.keeps k
  have hx₁ := k _ _ hx
  have I₁ : InstAt h₁ x (excO C t0) C none := ⟨hx₁, rfl, rfl, trivial⟩
  obtain ⟨mb, hb1, hb2⟩ := M.blt
  show PySem.wpAt _ _ _ (execs [.Expr (.Call (.Attribute (.Call (.Name "super" q1) [] [] q2) "__init__" q3) [.Constant (.str txt) j q4] [] q5) q6] _) _ _ _
  refine ks_wpAt_execs_cons ?_
  refine ks_wpAt_Expr_any ?_
  refine ks_wpAt_MethodCall ?_ (he_super hpos)
  refine ks_wpAt_super_base (fd := ksFn "__init__" qual (eA p1) (eB txt j q1 q2 q3 q4 q5 q6) eS .none .none doc pm an (.ref cda) ct cc) (cc := cda) (f := fI) rfl rfl (show (("__init__" : Str) == ("__class__" : Str)) = false by decide) rfl (X₁ _ _ ho) rfl rfl rfl (X₁ _ _ hcda) rfl hvs hfile T.top ?_
  refine ks_loadName_global rfl rfl (loadGlobal_builtin (M.glob.keeps hbs₁) hsup (hb1.keeps hbs₁) ((hb2 _ (by decide)).trans (by first | rfl | decide +kernel | kernel_rfl)) ⟨rfl, ?_⟩)
  refine wpAny_loadName_free (name := "__class__") (c := cc) (v := .ref C) rfl rfl rfl ⟨_, X₁ _ _ hcc, rfl⟩ ?_
  refine wpAny_loadName_local rfl rfl hns rfl ?_
  refine ks_wpAny_isType_cls (X₁ _ _ hC) rfl ⟨rfl, ?_⟩
  refine ks_wpAny_call_super (X₁ _ _ hC) rfl hx₁ rfl (fun c e => nomatch e) (looks_mroIn X₁ T.me) (fun h₂ hso k₂ => ?_)
  have X₂ : K.In h₂ := X₁.keeps k₂
  have I₂ : InstAt h₂ x (excO C t0) C none := ⟨k₂ _ _ hx₁, rfl, rfl, trivial⟩
  refine kxs_getMethod kxs_ValueError hso (looks_opaque X₂ T.st) (l₀ := .ref C :: bm) (l := bm) (fun A Q E s k q => wpAny_bind ((looks_clsIn X₂ hcl) A _ E s k (wpAny_pure q))) (drop_self C bm) X₂ hal (I₂.type.andThen (looks_subIn X₂ T.veC)) (ks_ne X₂ I₂ hcl) (by decide) ?_
  have k₃ : ∀ b o, h₂.get? b = some o → (h₂.push (kxs_mw "ValueError.__init__" x)).get? b = some o := fun b o e => Heap.get?_push_of_some _ e
  have hu : (h₂.push (kxs_mw "ValueError.__init__" x)).get? h₂.objs.size = some (kxs_mw "ValueError.__init__" x) := Heap.get?_push_at rfl rfl
  refine kxs_callWith (i := "ValueError.__init__") (x := x) rfl (evalArgs_plain ?_)
  refine spliced_more (e := .Constant (.str txt) j q4) (rest := []) (wpAny_Constant_str (spliced_none ⟨hu, ?_⟩))
  refine mw_call (C := C) (e := x) (u := h₂.objs.size) (k₃ _ _ (X₂ _ _ hC)) (k₃ _ _ (k₂ _ _ hx₁)) hu (by show 1 ≤ sizeLine; rw [sizeLine_eq]; omega) (fun h₄ t1 k₄ e₄ => ?_)
  refine wpAt_of_wpAny (wpAny_execs_nil ?_)
  have old : ∀ b o, b ≠ x → s.heap.get? b = some o → h₄.get? b = some o := fun b o n e => k₄ b o n (k₃ _ _ (k₂ _ _ (k _ _ e)))
  exact hq h₄ _ t1 old e₄
/-- the call of the class -/
theorem err_made (T : ErrT prog K C fI) (M : Mod K mg base) (hbs : ∀ b o, base.get? b = some o → s.heap.get? b = some o) (hsup : mg "super" = none) (hroom : A.depth + 1 < recursionLimit)
    (hq : ∀ h' tk e, Made s.heap h' e C → R (.ok (.ret (.ref e))) { s with heap := h', toks := tk }) :
    codeAny (model prog w) A (.call (.ref C) ⟨[], []⟩) R s := by
  obtain ⟨nm, q, N, bs, bm, sn, sub, ab, col, dd, k0, k1, k2, k3, k5, hC, hbm, hal⟩ := T.cls
  have X : K.In s.heap := M.kin.keeps hbs
  obtain ⟨hp, g, dr, tk, os⟩ := s
  have k : ∀ b o, hp.get? b = some o → ((hp.push (kdv_tup [])).push (excO C hp.objs.size)).get? b = some o := fun b o e => Heap.get?_push_of_some _ (Heap.get?_push_of_some _ e)
  have hget : ((hp.push (kdv_tup [])).push (excO C hp.objs.size)).get? (hp.objs.size + 1) = some (excO C hp.objs.size) := by heap_get
  have hnx : base.get? (hp.objs.size + 1) = none := by
    cases e : base.get? (hp.objs.size + 1) with
    | none => rfl
    | some o => exact absurd (Nat.lt_of_succ_lt (Heap.lt_size (hbs _ _ e))) (Nat.lt_irrefl _)
  refine call_own F.excBase_ValueError (fun X => refsVE_contains X bm hbm) (X _ _ hC) (looks_findIn X T.iC) (fun self => bind_fn X self T.tC) (by show 0 ≤ sizeLine; omega) ?_
  refine err_init (s := ⟨(hp.push (kdv_tup [])).push (excO C hp.objs.size), g, dr, tk, os⟩) T M (fun b o e => k b o (hbs b o e)) hsup hget hnx ?_ fun h' tk' t1 k' hx => ?_
  · show A.depth + 1 < recursionLimit
    exact hroom
  · have old : ∀ b o, hp.get? b = some o → h'.get? b = some o := fun b o e => k' b o (Nat.ne_of_lt (Nat.lt_succ_of_lt (Heap.lt_size e))) (k b o e)
    exact ⟨rfl, hq h' tk' (hp.objs.size + 1) ⟨old, Nat.le_succ _, t1, hx⟩⟩
end

section
open PySem.Spec PyProof.Rows
variable {X : Cx} {C fI : Addr}
/-- BadX() -/
def tMkErr (C : Addr) : L2.St → Hp → XK → Prop := fun σ H Q => Q (.ref C) none H
theorem pmk_err {x : Str} {p pos : Pos} {k : Nat} (T : ErrT X.prog X.K C fI) (hr : Room (k + 1) X.A) (hsup : X.mg "super" = none) (hm : X.mg x = some (.ref C)) (hg : Gl X x := by rfl) (hd : (x == ("__debug__" : Str)) = false := by decide) :
    PMk X (.Call (.Name x p) [] [] pos) (tMkErr C) := by
  intro pins s σ H Q I h
  refine wpAny_Call_Name_kw (ld_glob I hg hm ?_ hd)
  refine PySem.W.callWith_K0 I.kIn T.kC ?_
  show wpAny _ _ (call (.ref C) []) _ _ _
  refine wpAny_call (err_made T I.ok.mod I.bk hsup (by have := hr.dp; omega) fun h' tk' e M => ?_)
  obtain ⟨t1, hoe⟩ := M.obj
  have hn : s.heap.get? e = none := by
    cases z : s.heap.get? e with
    | none => rfl
    | some o => exact absurd (Nat.lt_of_lt_of_le (Heap.lt_size z) M.new) (Nat.lt_irrefl _)
  exact ⟨e, _, _, s, H, .ref C, none, rfl, I, M.keep, hn, hoe, ⟨rfl, rfl⟩, rfl, rfl, I.hok.fresh M.new, rfl, I.bare, raises_own T.exC T.tyC, h⟩
end
end DL

/-! data layer 6: built-in functions -/
namespace DL
open PySem L2

/-- the built-in names that no module of the program lays anew -/
def bnames : List Str := ["len", "int", "range", "isinstance", "list", "tuple", "abs", "max", "min", "sum", "any", "all", "sorted", "enumerate", "repr", "super", "bool", "str", "ValueError", "type", "zip", "reversed", "set", "dict"]
/-- the modules of the program do so -/
class Plain (X : Cx) : Prop where
  pl : ∀ x, x ∈ bnames → X.mg x = none
theorem plain {X : Cx} [p : Plain X] (x : Str) (h : x ∈ bnames := by decide +kernel) : X.mg x = none := p.pl x h
instance {X : Cx} [c : Plain X] {scope : Scope} {s : Shared} {H : Hp} {C : Addr} {cl : List (Str × Addr)} {fp : List Addr} : Plain (BK X scope s H C cl fp) := ⟨c.pl⟩

section
variable {X : Cx} {ρ : List (Option RV)} {a b e : Expr} {es : List Expr} {x y z w : D} {ds : List D} {p pos : Pos} {i j : Int}
/-- a call that makes nothing -/
def RelC (X : Cx) (f : Value) (xs : List D) (z : D) : Prop := ∃ r, CallR X f r ∧ ∀ vs H (Q : VK), RpAll X.K H vs xs → (∀ w, Rp X.K H w z → Q w H) → r vs H Q
theorem star_any2 {env : Env} (h : es.all notStar = true) : (backTo pos (starEach es env)).any (·.1) = false := star_any h
theorem evp_bi {id : String} {x : Str} (hc : RelC X (.builtin id) ds z) (ha : EvAP X ρ (e :: es) ds) (hm : X.mg x = none) (hv : bootBuiltins x = some (.builtin id)) (hg : Gl X x := by rfl) (hst : (e :: es).all notStar = true := by rfl) (hn : x ≠ "__name__" := by decide) (hdb : (x == ("__debug__" : Str)) = false := by decide) :
    EvP X ρ (.Call (.Name x p) (e :: es) [] pos) z := fun σ G H F Q k q => by
  obtain ⟨r, hr, hq⟩ := hc
  have h2 : notStar e = true ∧ es.all notStar = true := by simpa using hst
  refine cE_of (pe_callB hr hg hm hv pa_c hn hdb (star_cons h2.1) (star_any h2.2)) ?_
  refine ha σ G H F _ k fun vs G1 H1 t rs => ?_
  exact hq vs H1 Q rs fun w rw => q w G1 H1 t rw
theorem evp_bt {T : String} {x : Str} (hc : RelC X (.type T) ds z) (ha : EvAP X ρ (e :: es) ds) (hm : X.mg x = none) (hv : bootBuiltins x = some (.type T)) (hg : Gl X x := by rfl) (hst : (e :: es).all notStar = true := by rfl) (hn : x ≠ "__name__" := by decide) (hdb : (x == ("__debug__" : Str)) = false := by decide) :
    EvP X ρ (.Call (.Name x p) (e :: es) [] pos) z := fun σ G H F Q k q => by
  obtain ⟨r, hr, hq⟩ := hc
  have h2 : notStar e = true ∧ es.all notStar = true := by simpa using hst
  refine cE_of (pe_callTy hr hg hm hv pa_c hn hdb (star_cons h2.1) (star_any h2.2)) ?_
  refine ha σ G H F _ k fun vs G1 H1 t rs => ?_
  exact hq vs H1 Q rs fun w rw => q w G1 H1 t rw
theorem rp1 {K : PySem.W.Frag} {H : Hp} {vs : List V} (h : RpAll K H vs [x]) : ∃ v, vs = [v] ∧ Rp K H v x := by
  cases h with
  | cons h r => cases r; exact ⟨_, rfl, h⟩
theorem rp2 {K : PySem.W.Frag} {H : Hp} {vs : List V} (h : RpAll K H vs [x, y]) : ∃ v u, vs = [v, u] ∧ Rp K H v x ∧ Rp K H u y := by
  cases h with
  | cons h r =>
    obtain ⟨u, rfl, hu⟩ := rp1 r
    exact ⟨_, _, rfl, h, hu⟩
theorem c_lenl : RelC X (.builtin "len") [.list ds] (.int ds.length) := ⟨_, call_len_seq, fun vs H Q r q => by
  obtain ⟨v, rfl, hv⟩ := rp1 r
  cases hv with
  | lst h1 h2 => exact ⟨_, _, rfl, .inl (SqL.of h1), by rw [rpAll_length h2]; exact q _ (.int _)⟩⟩
theorem c_lent : RelC X (.builtin "len") [.tuple ds] (.int ds.length) := ⟨_, call_len_seq, fun vs H Q r q => by
  obtain ⟨v, rfl, hv⟩ := rp1 r
  cases hv with
  | tup h1 h2 => exact ⟨_, _, rfl, .inr h1, by rw [rpAll_length h2]; exact q _ (.int _)⟩⟩
theorem c_int : RelC X (.type "int") [.int i] (.int i) := ⟨_, call_int1, fun vs H Q r q => by
  obtain ⟨v, rfl, hv⟩ := rp1 r
  cases rp_int hv
  exact .inl ⟨i, rfl, q _ (.int i)⟩⟩
theorem c_intb {t : Bool} : RelC X (.type "int") [.bool t] (.int (if t then 1 else 0)) := ⟨_, call_int1, fun vs H Q r q => by
  obtain ⟨v, rfl, hv⟩ := rp1 r
  cases rp_bool hv
  exact .inr ⟨t, rfl, q _ (.int _)⟩⟩
theorem c_abs : RelC X (.builtin "abs") [.int i] (.int (if i < 0 then -i else i)) := ⟨_, call_abs, fun vs H Q r q => by
  obtain ⟨v, rfl, hv⟩ := rp1 r
  cases rp_int hv
  exact ⟨i, rfl, q _ (.int _)⟩⟩
theorem c_max2 {k : Nat} [Cok k X] : RelC X (.builtin "max") [.int i, .int j] (.int (max i j)) := ⟨_, call_max2 (Cok.calm (X := X)), fun vs H Q r q => by
  obtain ⟨v, u, rfl, hv, hu⟩ := rp2 r
  cases rp_int hv
  cases rp_int hu
  have e : (if j > i then j else i) = max i j := by rw [Int.max_def]; split <;> split <;> omega
  exact ⟨i, j, rfl, by rw [e]; exact q _ (.int _)⟩⟩
theorem c_min2 {k : Nat} [Cok k X] : RelC X (.builtin "min") [.int i, .int j] (.int (min i j)) := ⟨_, call_min2 (Cok.calm (X := X)), fun vs H Q r q => by
  obtain ⟨v, u, rfl, hv, hu⟩ := rp2 r
  cases rp_int hv
  cases rp_int hu
  have e : (if j < i then j else i) = min i j := by rw [Int.min_def]; split <;> split <;> omega
  exact ⟨i, j, rfl, by rw [e]; exact q _ (.int _)⟩⟩
theorem c_sum {k : Nat} [Cok k X] {ns : List Int} : RelC X (.builtin "sum") [.list (ns.map PyData.int)] (.int ns.sum) := ⟨_, cr_sum (Cok.calm (X := X)), fun vs H Q r q => by
  obtain ⟨v, rfl, hv⟩ := rp1 r
  cases hv with
  | lst h1 h2 =>
    cases rpAll_ints h2
    exact ⟨_, ns, rfl, SqL.of h1, q _ (.int _)⟩⟩
theorem c_maxl {k : Nat} [Cok k X] {ns : List Int} {m : Int} (h0 : m ∈ ns) (h1 : ∀ y ∈ ns, y ≤ m) : RelC X (.builtin "max") [.list (ns.map PyData.int)] (.int m) := ⟨_, cr_max (Cok.calm (X := X)), fun vs H Q r q => by
  obtain ⟨v, rfl, hv⟩ := rp1 r
  cases hv with
  | lst h3 h4 =>
    cases rpAll_ints h4
    refine ⟨_, ns, rfl, SqL.of h3, List.length_pos_of_mem h0, fun m' h5 h6 => ?_⟩
    have e : m' = m := Int.le_antisymm (h1 m' h5) (h6 m h0)
    rw [e]
    exact q _ (.int _)⟩
theorem c_minl {k : Nat} [Cok k X] {ns : List Int} {m : Int} (h0 : m ∈ ns) (h1 : ∀ y ∈ ns, m ≤ y) : RelC X (.builtin "min") [.list (ns.map PyData.int)] (.int m) := ⟨_, cr_min (Cok.calm (X := X)), fun vs H Q r q => by
  obtain ⟨v, rfl, hv⟩ := rp1 r
  cases hv with
  | lst h3 h4 =>
    cases rpAll_ints h4
    refine ⟨_, ns, rfl, SqL.of h3, List.length_pos_of_mem h0, fun m' h5 h6 => ?_⟩
    have e : m' = m := Int.le_antisymm (h6 m h0) (h1 m' h5)
    rw [e]
    exact q _ (.int _)⟩
theorem c_any {k : Nat} [Cok k X] {ns : List Bool} : RelC X (.builtin "any") [.list (ns.map PyData.bool)] (.bool (ns.any id)) := ⟨_, cr_any (Cok.calm (X := X)), fun vs H Q r q => by
  obtain ⟨v, rfl, hv⟩ := rp1 r
  cases hv with
  | lst h1 h2 =>
    cases rpAll_bls h2
    exact ⟨_, ns, rfl, SqL.of h1, q _ (.bl _)⟩⟩
theorem c_all {k : Nat} [Cok k X] {ns : List Bool} : RelC X (.builtin "all") [.list (ns.map PyData.bool)] (.bool (ns.all id)) := ⟨_, cr_all (Cok.calm (X := X)), fun vs H Q r q => by
  obtain ⟨v, rfl, hv⟩ := rp1 r
  cases hv with
  | lst h1 h2 =>
    cases rpAll_bls h2
    exact ⟨_, ns, rfl, SqL.of h1, q _ (.bl _)⟩⟩
/-- isinstance(e, T), T a built-in type -/
def tyD : D → String
  | .none => "NoneType"
  | .bool _ => "bool"
  | .int _ => "int"
  | .str _ => "str"
  | .list _ => "list"
  | .tuple _ => "tuple"
  | .dict _ => "dict"
theorem tyX_of {K : PySem.W.Frag} {H : Hp} {v : V} {d : D} (h : Rp K H v d) : TyX K H v (.type (tyD d)) := by
  cases h with
  | non => exact .base .non
  | bl b => exact .base (.bl b)
  | int i => exact .base (.int i)
  | str x => exact .base (.str x)
  | lst h _ => exact .base (.lst h)
  | tup h _ =>
    rcases h with (h | ⟨o, h⟩) | ⟨o, _, _, h1, h2, _⟩
    · exact .base (.tup h)
    · exact .fTuple h
    · exact .kTuple h1 h2
theorem evp_isi {T : Str} {n : String} {t : Bool} {p2 : Pos} (he : EvP X ρ e x) (hT : X.mg T = none) (hb : bootBuiltins T = some (.type n)) (hk : kitB (tyD x) n = some t) (hm : X.mg "isinstance" = none) (hg : Gl X "isinstance" := by rfl) (hg2 : Gl X T := by rfl) (hst : notStar e = true := by rfl)
    (hn : T ≠ "__name__" := by decide) (hdb : (T == ("__debug__" : Str)) = false := by decide) :
    EvP X ρ (.Call (.Name "isinstance" p) [e, .Name T p2] [] pos) (.bool t) := fun σ G H F Q k q => by
  refine cE_of (pe_callB call_isi hg hm PyProof.Rows.boot_isinstance (pa_cons pe_c (pa_cons (pe_bltn hg2 hT hb (v := .ty n) rfl hn hdb) pa_nil (star_cons rfl)) (star_cons hst)) (by decide) (by decide) (star_cons hst) (star_any rfl)) ?_
  refine he σ G H F _ k fun v G1 H1 t1 r1 => ?_
  exact ⟨v, .ty n, .type (tyD x), .type n, t, rfl, .ty n, tyX_of r1, kit_ty hk, q _ G1 H1 t1 (.bl t)⟩
/-- list(e): a new list -/
theorem ev_listl {x : Str} (h : EvL X ρ e ds) (hm : X.mg x = none) (hv : bootBuiltins x = some (.type "list")) (hg : Gl X x := by rfl) (hst : notStar e = true := by rfl) (hn : x ≠ "__name__" := by decide) (hdb : (x == ("__debug__" : Str)) = false := by decide) :
    Ev X ρ (.Call (.Name x p) [e] [] pos) (.ls ds) := fun σ G H F Q k q => by
  refine cE_of (pe_callTy call_list_of hg hm hv (pa_cons pe_c pa_nil (star_cons hst)) hn hdb (star_cons hst) (star_any rfl)) ?_
  refine h σ G H F _ k fun a vs G1 H1 t h1 h2 => ?_
  refine ⟨a, vs, rfl, .inl (SqL.of h1), fun l hl => ?_⟩
  have t2 := Tr.newO (o := .lst vs) t.gh hl
  exact q _ _ _ [l] (t.trans t2) ⟨l, vs, rfl, rfl, upd_same, sub_none t.gh hl, h2⟩ (by simp) fun z hz => by
    have e : z = l := by simpa using hz
    subst e
    exact t.back hl
theorem ev_listt {x : Str} (h : Ev X ρ e (.pu (.tuple ds))) (hm : X.mg x = none) (hv : bootBuiltins x = some (.type "list")) (hg : Gl X x := by rfl) (hst : notStar e = true := by rfl) (hn : x ≠ "__name__" := by decide) (hdb : (x == ("__debug__" : Str)) = false := by decide) :
    Ev X ρ (.Call (.Name x p) [e] [] pos) (.ls ds) := fun σ G H F Q k q => by
  refine cE_of (pe_callTy call_list_of hg hm hv (pa_cons pe_c pa_nil (star_cons hst)) hn hdb (star_cons hst) (star_any rfl)) ?_
  refine h σ G H F _ k fun v G1 H1 f t r _ _ => ?_
  obtain ⟨_, r⟩ := r
  cases r with
  | @tup a vs _ h1 h2 =>
    refine ⟨a, vs, rfl, .inr (same_seqT t.gh h1), fun l hl => ?_⟩
    have t2 := Tr.newO (o := .lst vs) t.gh hl
    exact q _ _ _ [l] (t.trans t2) ⟨l, vs, rfl, rfl, upd_same, sub_none t.gh hl, h2⟩ (by simp) fun z hz => by
      have e : z = l := by simpa using hz
      subst e
      exact t.back hl
/-- tuple(e), e a list -/
theorem ev_tuplel {x : Str} (h : EvL X ρ e ds) (hm : X.mg x = none) (hv : bootBuiltins x = some (.type "tuple")) (hg : Gl X x := by rfl) (hst : notStar e = true := by rfl) (hn : x ≠ "__name__" := by decide) (hdb : (x == ("__debug__" : Str)) = false := by decide) :
    Ev X ρ (.Call (.Name x p) [e] [] pos) (.pu (.tuple ds)) := fun σ G H F Q k q => by
  refine cE_of (pe_callTy call_tuple_of hg hm hv (pa_cons pe_c pa_nil (star_cons hst)) hn hdb (star_cons hst) (star_any rfl)) ?_
  refine h σ G H F _ k fun a vs G1 H1 t h1 h2 => ?_
  refine ⟨a, vs, rfl, .inl ⟨SqL.of h1, fun l hl => ?_⟩⟩
  have t2 := Tr.new (o := .tup vs) t.gh hl
  exact q _ _ _ [] (t.trans t2) ⟨rfl, .tup (SqT.of upd_same) (rpAll_mono t2.gg h2)⟩ (by simp) (by simp)
theorem ev_tuplet {x : Str} (h : Ev X ρ e (.pu (.tuple ds))) (hm : X.mg x = none) (hv : bootBuiltins x = some (.type "tuple")) (hg : Gl X x := by rfl) (hst : notStar e = true := by rfl) (hn : x ≠ "__name__" := by decide) (hdb : (x == ("__debug__" : Str)) = false := by decide) :
    Ev X ρ (.Call (.Name x p) [e] [] pos) (.pu (.tuple ds)) := fun σ G H F Q k q => by
  refine cE_of (pe_callTy call_tuple_of hg hm hv (pa_cons pe_c pa_nil (star_cons hst)) hn hdb (star_cons hst) (star_any rfl)) ?_
  refine h σ G H F _ k fun v G1 H1 f t r _ _ => ?_
  obtain ⟨e0, r⟩ := r
  have r0 := r
  cases r with
  | @tup a vs _ h1 h2 => exact ⟨a, vs, rfl, .inr ⟨same_seqT t.gh h1, q _ G1 H1 [] t ⟨rfl, r0⟩ (by simp) (by simp)⟩⟩
end
end DL

/-! data layer 7: the rules, in a form that is found by the shape of the text -/
namespace DL
open PySem L2

/-- the name x stands in slot i -/
structure Nm (X : Cx) (i : Nat) (x : Str) : Prop where
  at_ : X.N[i]? = some x
  vis : Vis X.env.scope x
  nd : (x == ("__debug__" : Str)) = false
  nc : (x == ("__classdict__" : Str)) = false
/-- .. and may be stored -/
structure Nl (X : Cx) (i : Nat) (x : Str) : Prop where
  at_ : X.N[i]? = some x
  loc : Loc X.env.scope x
  fn : X.fn x = true ∨ X.env.scope.names.lookup x = some .local
/-- a global name -/
structure Ng (X : Cx) (x : Str) : Prop where
  gl : Gl X x
  nd : (x == ("__debug__" : Str)) = false
/-- a module's constant -/
structure Nk (X : Cx) (x : Str) (d : D) : Prop where
  g : Ng X x
  ex : ∃ u v, X.mg x = some u ∧ RelV v u ∧ ∀ G, Rp X.K G v d

section
variable {X : Cx} {ρ : List (Option RV)} {a b c e : Expr} {es : List Expr} {x : Str} {i : Nat} {d : D} {ds : List D} {cs : List Cm} {r : RV} {p pos p2 : Pos} {y z w u : D} {n m : Int}
theorem evN (h : Nm X i x) (hr : ρ[i]? = some (some (.pu d))) : Ev X ρ (.Name x pos) (.pu d) := ev_v i hr h.at_ h.vis h.nd h.nc
theorem evpNl (h : Nm X i x) (hr : ρ[i]? = some (some (.ls ds))) : EvP X ρ (.Name x pos) (.list ds) := evp_v i hr rfl h.at_ h.vis h.nd h.nc
theorem evpNt (h : Nm X i x) (hr : ρ[i]? = some (some (.tp cs))) : EvP X ρ (.Name x pos) (.tuple (cs.map Cm.flat)) := evp_v i hr rfl h.at_ h.vis h.nd h.nc
theorem evFz (h : Nm X i x) (hr : ρ[i]? = some (some (.fz ds))) : Ev X ρ (.Name x pos) (.fz ds) := fun σ G H F Q k q => by
  obtain ⟨v, f, h1, h2, h3, h4⟩ := k.sl.get hr
  obtain ⟨e1, h2⟩ := h2
  exact cE_of (pe_var h.at_ h.vis h.nd h.nc) ⟨v, h1, q v G H [] (Tr.refl k.sub) ⟨rfl, h2⟩ (by simp) (by simp)⟩
theorem eviFz {tg : Expr} (h : Nm X i x) (hr : ρ[i]? = some (some (.fz ds))) : EvI X ρ tg (.Name x pos) ds := ⟨_, pi_list pe_c, fun σ G H F R k q => by
  refine evFz h hr σ G H F _ k fun v G1 H1 f t r _ _ => ?_
  obtain ⟨_, a, vs, e1, h1, h2⟩ := r
  subst e1
  refine ⟨_, rfl, ⟨_, t.gh.seq h1⟩, q _ G1 H1 _ _ t (by rw [← rpAll_length h2]; exact walk_list) (fun G' H' a b => b.seq (a.seq h1)) fun i G' H' x H2 hi a b y => ?_⟩
  obtain ⟨rfl, hx⟩ := y
  have hd : ds[i]? = some ds[i] := List.getElem?_eq_getElem hi
  obtain ⟨v, e1, e2⟩ := rpAll_get h2 hd
  rw [hx] at e1; cases e1
  exact ⟨_, G', hd, Tr.refl b, rp_mono a e2⟩⟩
theorem evlN (h : Nm X i x) (hr : ρ[i]? = some (some (.ls ds))) : EvL X ρ (.Name x pos) ds := evl_v i hr h.at_ h.vis h.nd h.nc
theorem evlNp (h : Nm X i x) (hr : ρ[i]? = some (some (.pu (.list ds)))) : EvL X ρ (.Name x pos) ds := (evN h hr).lp
theorem evK (h : Nk X x d) : Ev X ρ (.Name x pos) (.pu d) := by
  obtain ⟨g, u, v, h1, h2, h3⟩ := h
  exact ev_glob h1 h2 h3 g.gl g.nd
/-- shared parts, one behind another -/
def EvU (X : Cx) (ρ : List (Option RV)) (es : List Expr) (ds : List D) : Prop := EvAs X ρ es (ds.map RV.pu)
theorem evu_nil : EvU X ρ [] [] := eva_nil
theorem evu_cons (ha : Ev X ρ e (.pu d)) (hr : EvU X ρ es ds) (hs : notStar e = true := by rfl) : EvU X ρ (e :: es) (d :: ds) := eva_cons ha hr hs
theorem evTup {x1} (h : EvU X ρ es ds) (hz : ds.length ≤ sizeLine) : Ev X ρ (.Tuple es x1 pos) (.pu (.tuple ds)) := ev_tup h hz
theorem evLst (h : EvU X ρ es ds) (hz : ds.length ≤ sizeLine) : Ev X ρ (.List es pos) (.ls ds) := ev_lst h hz
/-- parts that may be owned -/
def EvO' (X : Cx) (ρ : List (Option RV)) (es : List Expr) (cs : List Cm) : Prop := EvAs X ρ es (cs.map Cm.rv)
theorem evo'_nil : EvO' X ρ [] [] := eva_nil
theorem evo'_pu {cs : List Cm} (ha : Ev X ρ e (.pu d)) (hr : EvO' X ρ es cs) (hs : notStar e = true := by rfl) : EvO' X ρ (e :: es) (.pu d :: cs) := eva_cons ha hr hs
theorem evo'_ls {cs : List Cm} (ha : Ev X ρ e (.ls ds)) (hr : EvO' X ρ es cs) (hs : notStar e = true := by rfl) : EvO' X ρ (e :: es) (.ls ds :: cs) := eva_cons ha hr hs
theorem evTupO {x1} {cs : List Cm} (h : EvO' X ρ es cs) (hz : cs.length ≤ sizeLine) : Ev X ρ (.Tuple es x1 pos) (.tp cs) := ev_tupO h hz
theorem two_le : (2 : Nat) ≤ sizeLine := by decide
theorem small {k : Nat} (h : k ≤ 1000000) : k ≤ sizeLine := Nat.le_trans h (by decide)
/-- comparisons as values and as tests -/
theorem evC {op : CmpOp} (ha : EvP X ρ a y) (hb : EvP X ρ b z) (h : Rel2 X (compareOp op) y z w) (hm : behindInMarks op b = false) : EvP X ρ (.Compare a [op] [b] pos) w := evp_cmp ha hb h hm
theorem evtC {op : CmpOp} {t : Bool} (ha : EvP X ρ a y) (hb : EvP X ρ b z) (h : Rel2 X (compareOp op) y z (.bool t)) (hm : behindInMarks op b = false) : EvT X ρ (.Compare a [op] [b] pos) t := evt_cmp ha hb h hm
theorem evCC {op op' : CmpOp} {t t' : Bool} (ha : EvP X ρ a y) (hb : EvP X ρ b z) (h : Rel2 X (compareOp op) y z (.bool t)) (hc : EvP X ρ c w) (h0 : Rel2 X (compareOp op') z w (.bool t')) (hm : lastMarks [op, op'] [b, c] = false) : EvP X ρ (.Compare a [op, op'] [b, c] pos) (.bool (t && t')) := evp_chain ha hb h (fun _ => hc) h0 hm
theorem evtCC {op op' : CmpOp} {t t' : Bool} (ha : EvP X ρ a y) (hb : EvP X ρ b z) (h : Rel2 X (compareOp op) y z (.bool t)) (hc : EvP X ρ c w) (h0 : Rel2 X (compareOp op') z w (.bool t')) (hm : lastMarks [op, op'] [b, c] = false) : EvT X ρ (.Compare a [op, op'] [b, c] pos) (t && t') := evt_chain ha hb h (fun _ => hc) (fun _ => h0) h0 hm
theorem evap_c (ha : EvP X ρ e d) (hr : EvAP X ρ es ds) (hs : notStar e = true) : EvAP X ρ (e :: es) (d :: ds) := evap_cons ha hr hs
/-- built-in functions -/
theorem evLenl [Plain X] (h : EvP X ρ e (.list ds)) (g : Ng X "len") (hs : notStar e = true) : EvP X ρ (.Call (.Name "len" p) [e] [] pos) (.int ds.length) := evp_bi c_lenl (evap_cons h evap_nil hs) (plain _) boot_len g.gl (by simp [hs])
theorem evLent [Plain X] (h : EvP X ρ e (.tuple ds)) (g : Ng X "len") (hs : notStar e = true) : EvP X ρ (.Call (.Name "len" p) [e] [] pos) (.int ds.length) := evp_bi c_lent (evap_cons h evap_nil hs) (plain _) boot_len g.gl (by simp [hs])
theorem evInt [Plain X] (h : EvP X ρ e (.int n)) (g : Ng X "int") (hs : notStar e = true) : EvP X ρ (.Call (.Name "int" p) [e] [] pos) (.int n) := evp_bt c_int (evap_cons h evap_nil hs) (plain _) PyProof.Rows.boot_int g.gl (by simp [hs])
theorem evAbs [Plain X] (h : EvP X ρ e (.int n)) (g : Ng X "abs") (hs : notStar e = true) : EvP X ρ (.Call (.Name "abs" p) [e] [] pos) (.int (if n < 0 then -n else n)) := evp_bi c_abs (evap_cons h evap_nil hs) (plain _) PyProof.Rows.boot_abs g.gl (by simp [hs])
theorem evMax2 {k : Nat} [Cok k X] [Plain X] (h : EvP X ρ a (.int n)) (h2 : EvP X ρ b (.int m)) (g : Ng X "max") (hs : notStar a = true) (hs2 : notStar b = true) : EvP X ρ (.Call (.Name "max" p) [a, b] [] pos) (.int (max n m)) := evp_bi c_max2 (evap_cons h (evap_cons h2 evap_nil hs2) hs) (plain _) PyProof.Rows.boot_max g.gl (by simp [hs, hs2])
theorem evMin2 {k : Nat} [Cok k X] [Plain X] (h : EvP X ρ a (.int n)) (h2 : EvP X ρ b (.int m)) (g : Ng X "min") (hs : notStar a = true) (hs2 : notStar b = true) : EvP X ρ (.Call (.Name "min" p) [a, b] [] pos) (.int (min n m)) := evp_bi c_min2 (evap_cons h (evap_cons h2 evap_nil hs2) hs) (plain _) PyProof.Rows.boot_min g.gl (by simp [hs, hs2])
theorem evSum {k : Nat} [Cok k X] [Plain X] {ns : List Int} (h : EvP X ρ e (.list (ns.map PyData.int))) (g : Ng X "sum") (hs : notStar e = true) : EvP X ρ (.Call (.Name "sum" p) [e] [] pos) (.int ns.sum) := evp_bi c_sum (evap_cons h evap_nil hs) (plain _) PyProof.Rows.boot_sum g.gl (by simp [hs])
theorem evAll {k : Nat} [Cok k X] [Plain X] {ns : List Bool} (h : EvP X ρ e (.list (ns.map PyData.bool))) (g : Ng X "all") (hs : notStar e = true) : EvP X ρ (.Call (.Name "all" p) [e] [] pos) (.bool (ns.all id)) := evp_bi c_all (evap_cons h evap_nil hs) (plain _) PyProof.Rows.boot_all g.gl (by simp [hs])
theorem evAny {k : Nat} [Cok k X] [Plain X] {ns : List Bool} (h : EvP X ρ e (.list (ns.map PyData.bool))) (g : Ng X "any") (hs : notStar e = true) : EvP X ρ (.Call (.Name "any" p) [e] [] pos) (.bool (ns.any id)) := evp_bi c_any (evap_cons h evap_nil hs) (plain _) PyProof.Rows.boot_any g.gl (by simp [hs])
theorem evListl [Plain X] (h : EvL X ρ e ds) (g : Ng X "list") (hs : notStar e = true) : Ev X ρ (.Call (.Name "list" p) [e] [] pos) (.ls ds) := ev_listl h (plain _) PyProof.Rows.boot_list g.gl hs
theorem evListt [Plain X] (h : Ev X ρ e (.pu (.tuple ds))) (g : Ng X "list") (hs : notStar e = true) : Ev X ρ (.Call (.Name "list" p) [e] [] pos) (.ls ds) := ev_listt h (plain _) PyProof.Rows.boot_list g.gl hs
theorem evTuplel [Plain X] (h : EvL X ρ e ds) (g : Ng X "tuple") (hs : notStar e = true) : Ev X ρ (.Call (.Name "tuple" p) [e] [] pos) (.pu (.tuple ds)) := ev_tuplel h (plain _) PyProof.Rows.boot_tuple g.gl hs
def isInt : D → Bool
  | .int _ => true
  | .bool _ => true
  | _ => false
def isBool : D → Bool
  | .bool _ => true
  | _ => false
def isTup : D → Bool
  | .tuple _ => true
  | _ => false
theorem kitI (d : D) : kitB (tyD d) "int" = some (isInt d) := by
  cases d with
  | none => exact (by decide +kernel : kitB "NoneType" "int" = some false)
  | bool _ => exact (by decide +kernel : kitB "bool" "int" = some true)
  | int _ => exact (by decide +kernel : kitB "int" "int" = some true)
  | str _ => exact (by decide +kernel : kitB "str" "int" = some false)
  | list _ => exact (by decide +kernel : kitB "list" "int" = some false)
  | tuple _ => exact (by decide +kernel : kitB "tuple" "int" = some false)
  | dict _ => exact (by decide +kernel : kitB "dict" "int" = some false)
theorem kitBo (d : D) : kitB (tyD d) "bool" = some (isBool d) := by
  cases d with
  | none => exact (by decide +kernel : kitB "NoneType" "bool" = some false)
  | bool _ => exact (by decide +kernel : kitB "bool" "bool" = some true)
  | int _ => exact (by decide +kernel : kitB "int" "bool" = some false)
  | str _ => exact (by decide +kernel : kitB "str" "bool" = some false)
  | list _ => exact (by decide +kernel : kitB "list" "bool" = some false)
  | tuple _ => exact (by decide +kernel : kitB "tuple" "bool" = some false)
  | dict _ => exact (by decide +kernel : kitB "dict" "bool" = some false)
theorem kitT (d : D) : kitB (tyD d) "tuple" = some (isTup d) := by
  cases d with
  | none => exact (by decide +kernel : kitB "NoneType" "tuple" = some false)
  | bool _ => exact (by decide +kernel : kitB "bool" "tuple" = some false)
  | int _ => exact (by decide +kernel : kitB "int" "tuple" = some false)
  | str _ => exact (by decide +kernel : kitB "str" "tuple" = some false)
  | list _ => exact (by decide +kernel : kitB "list" "tuple" = some false)
  | tuple _ => exact (by decide +kernel : kitB "tuple" "tuple" = some true)
  | dict _ => exact (by decide +kernel : kitB "dict" "tuple" = some false)
theorem evIsInt [Plain X] (h : EvP X ρ e d) (g : Ng X "isinstance") (g2 : Ng X "int") (hs : notStar e = true) : EvP X ρ (.Call (.Name "isinstance" p) [e, .Name "int" p2] [] pos) (.bool (isInt d)) :=
  evp_isi h (plain _) PyProof.Rows.boot_int (kitI d) (plain _) g.gl g2.gl hs
theorem evIsBool [Plain X] (h : EvP X ρ e d) (g : Ng X "isinstance") (g2 : Ng X "bool") (hs : notStar e = true) : EvP X ρ (.Call (.Name "isinstance" p) [e, .Name "bool" p2] [] pos) (.bool (isBool d)) :=
  evp_isi h (plain _) PyProof.Rows.boot_bool (kitBo d) (plain _) g.gl g2.gl hs
theorem evIsTup [Plain X] (h : EvP X ρ e d) (g : Ng X "isinstance") (g2 : Ng X "tuple") (hs : notStar e = true) : EvP X ρ (.Call (.Name "isinstance" p) [e, .Name "tuple" p2] [] pos) (.bool (isTup d)) :=
  evp_isi h (plain _) PyProof.Rows.boot_tuple (kitT d) (plain _) g.gl g2.gl hs
end
end DL

/-! data layer 8: calls and statements, in the same form -/
namespace DL
open PySem L2

/-- where a context runs -/
class Is (X : Cx) (P : outParam Program) (w : outParam World) (K : outParam PySem.W.Frag) (mg : outParam (Str → Option Value)) (base : outParam Heap) : Prop where
  is : X.prog = P ∧ X.w = w ∧ X.K = K ∧ X.mg = mg ∧ X.base = base
instance {P : Program} {w : World} {K : PySem.W.Frag} {mg : Str → Option Value} {base : Heap} {N : List Str} {qual : Str} {sc : Scope} {f : Addr} {cdv : Value} {A : Around} {outer : List Env} {s : Shared} {H : Hp} {E : XK} : Is (BX P w K mg base N qual sc f cdv A outer s H E) P w K mg base := ⟨rfl, rfl, rfl, rfl, rfl⟩
instance {X : Cx} {P : Program} {w : World} {K : PySem.W.Frag} {mg : Str → Option Value} {base : Heap} [c : Is X P w K mg base] {scope : Scope} {s : Shared} {H : Hp} {C : Addr} {cl : List (Str × Addr)} {fp : List Addr} : Is (BK X scope s H C cl fp) P w K mg base := ⟨c.is⟩
section
variable {X : Cx} {P : Program} {w : World} {K : PySem.W.Frag} {mg : Str → Option Value} {base : Heap} {ρ : List (Option RV)} {ds : List D} {e a b : Expr} {es : List Expr} {p pos : Pos} {x : Str} {ps : List Str} {S : List RV → Ans → Prop} {args : List RV} {res : RV} {d : D} {B : Addr} {k j : Nat}
theorem Callee.at (C : Callee P w K mg base j x ps S) [i : Is X P w K mg base] : Callee X.prog X.w X.K X.mg X.base j x ps S := by
  obtain ⟨h1, h2, h3, h4, h5⟩ := i.is
  rw [h1, h2, h3, h4, h5]; exact C
theorem evF [Cok k X] [Is X P w K mg base] (C : Callee P w K mg base j x ps S) (ha : EvAs X ρ (e :: es) args) (hS : S args (.ok res)) (g : Ng X x) (hj : j ≤ k) (hst : (e :: es).all notStar = true) : Ev X ρ (.Call (.Name x p) (e :: es) [] pos) res := ev_call C.at ha hS hj g.gl hst g.nd
theorem exF [Cok k X] [Is X P w K mg base] (C : Callee P w K mg base j x ps S) (ha : EvAs X ρ (e :: es) args) (hS : S args (.er B)) (g : Ng X x) (hj : j ≤ k) (hst : (e :: es).all notStar = true) : Ex X ρ (.Call (.Name x p) (e :: es) [] pos) B := ex_call C.at ha hS hj g.gl hst g.nd
theorem evFP [Cok k X] [Is X P w K mg base] (C : Callee P w K mg base j x ps S) (ha : EvAP X ρ (e :: es) ds) (hS : S (ds.map RV.pu) (.ok (.pu d))) (hd : imm d = true) (g : Ng X x) (hj : j ≤ k) (hst : (e :: es).all notStar = true) : Ev X ρ (.Call (.Name x p) (e :: es) [] pos) (.pu d) := ev_callP C.at ha hS hd hj g.gl hst g.nd
theorem exFP [Cok k X] [Is X P w K mg base] (C : Callee P w K mg base j x ps S) (ha : EvAP X ρ (e :: es) ds) (hS : S (ds.map RV.pu) (.er B)) (g : Ng X x) (hj : j ≤ k) (hst : (e :: es).all notStar = true) : Ex X ρ (.Call (.Name x p) (e :: es) [] pos) B := ex_callP C.at ha hS hj g.gl hst g.nd
theorem evas_c {r : RV} {rs : List RV} (ha : Ev X ρ e r) (hr : EvAs X ρ es rs) (hs : notStar e = true) : EvAs X ρ (e :: es) (r :: rs) := eva_cons ha hr hs

variable {ρ' : List (Option RV)} {O : Out → Prop} {sts thn els : List Stmt} {bs : List (List Stmt)} {y : Str} {py apos pos' : Pos} {i : Nat} {r : RV} {m n : Int} {js : List Nat} {tg iter : Expr}
theorem svbSet [Cok k X] (l : Nl X i y) (he : Ev X ρ e r) (h : Svb X (ρ.set i (some r)) (sts :: bs) O) (hi : i < ρ.length) (hs : swapsWith e (some (.Name y py)) pos.line X.env = pure false := by rfl) : Svb X ρ ((.Assign [.Name y py] e pos :: sts) :: bs) O :=
  svb_set i he h hi l.at_ l.loc hs l.fn
theorem svbSetX [Cok k X] (l : Nl X i y) (he : Ex X ρ e B) (h : O (.ex ρ B)) (hs : swapsWith e (some (.Name y py)) pos.line X.env = pure false := by rfl) : Svb X ρ ((.Assign [.Name y py] e pos :: sts) :: bs) O :=
  svb_setX i he h l.at_ l.loc hs l.fn
theorem svbAug [Cok k X] (l : Nl X i y) (hr : ρ[i]? = some (some (.pu (.int m)))) (he : EvP X ρ e (.int n)) (h : Svb X (ρ.set i (some (.pu (.int (m + n))))) (sts :: bs) O) : Svb X ρ ((.AugAssign (.Name y py) .Add e pos :: sts) :: bs) O :=
  svb_augi i hr he h l.at_ l.loc l.fn
theorem svbApp [Cok k X] (l : Nm X i y) (hr : ρ[i]? = some (some (.ls ds))) (he : Ev X ρ e (.pu d)) (hz : ds.length < sizeLine) (h : Svb X (ρ.set i (some (.ls (ds ++ [d])))) (sts :: bs) O) (hse : notStar e = true)
    (hbase : attributeBase (.Name y py) "append" X.env (eval (.Name y py) X.env) = eval (.Name y py) X.env := by rfl)
    (hfew : ((backTo pos (starEach [e] X.env)).all (fun x => !x.1) && (backToKw pos (keywordEach [] X.env)).all (fun x => x.1.isSome)
      && decide (([e] : List Expr).length + ([] : List Keyword).length + (if ([] : List Keyword).isEmpty then 0 else 1) < 30)) = true := by rfl)
    (hline : (apos.endLine == pos.line) = true := by rfl) : Svb X ρ ((.Expr (.Call (.Attribute (.Name y py) "append" apos) [e] [] pos) pos' :: sts) :: bs) O := svb_append i hr he hz h l.at_ l.vis l.nd l.nc hse hbase hfew hline
theorem svbRaise [Cok (k + 1) X] [Is X P w K mg base] [Plain X] {fI : Addr} (T : ErrT P K B fI) (hm : mg x = some (.ref B)) (g : Ng X x) (h : O (.ex ρ B)) : Svb X ρ ((.Raise (some (.Call (.Name x p) [] [] pos)) none pos' :: sts) :: bs) O := by
  obtain ⟨h1, h2, h3, h4, h5⟩ := (inferInstance : Is X P w K mg base).is
  exact svb_raise (pmk_err (by rw [h1, h3]; exact T) (Cok.room (X := X)) (plain _) (by rw [h4]; exact hm) g.gl g.nd) h
end

/-- the names and the scope of a context -/
class Bd (X : Cx) (N : outParam (List Str)) (sc : outParam Scope) : Prop where
  N_ : X.N = N
  sc_ : X.env.scope = sc
/-- a def's own frame -/
class Fnt (X : Cx) : Prop where
  fn_ : ∀ x, X.fn x = true
instance {P : Program} {w : World} {K : PySem.W.Frag} {mg : Str → Option Value} {base : Heap} {N : List Str} {qual : Str} {sc : Scope} {f : Addr} {cdv : Value} {A : Around} {outer : List Env} {s : Shared} {H : Hp} {E : XK} : Bd (BX P w K mg base N qual sc f cdv A outer s H E) N sc := ⟨rfl, rfl⟩
instance {P : Program} {w : World} {K : PySem.W.Frag} {mg : Str → Option Value} {base : Heap} {N : List Str} {qual : Str} {sc : Scope} {f : Addr} {cdv : Value} {A : Around} {outer : List Env} {s : Shared} {H : Hp} {E : XK} : Fnt (BX P w K mg base N qual sc f cdv A outer s H E) := ⟨fun _ => rfl⟩
/-- a block's scope within the scope sc -/
def relS (scope sc : Scope) : Scope := relabel scope { scope := sc, locals := 0, globals := 0, cells := [] }
theorem relS_eq {scope : Scope} {env : Env} {sc : Scope} (h : env.scope = sc) : relabel scope env = relS scope sc := by
  subst h
  unfold relS relabel Env.kindOf
  rfl
instance {X : Cx} {N : List Str} {sc : Scope} [b : Bd X N sc] {scope : Scope} {s : Shared} {H : Hp} {C : Addr} {cl : List (Str × Addr)} {fp : List Addr} : Bd (BK X scope s H C cl fp) N (relS scope sc) := ⟨b.N_, relS_eq b.sc_⟩
def isV : Option NameKind → Bool
  | some .local => true
  | some .cell => true
  | some .free => true
  | _ => false
def isL : Option NameKind → Bool
  | some .local => true
  | some .cell => true
  | _ => false
def nmB (N : List Str) (sc : Scope) (i : Nat) (x : Str) : Bool := (N[i]? == some x) && isV (sc.names.lookup x) && !(x == "__debug__") && !(x == "__classdict__")
def nlB (N : List Str) (sc : Scope) (i : Nat) (x : Str) : Bool := (N[i]? == some x) && isL (sc.names.lookup x)
def nkB (N : List Str) (sc : Scope) (i : Nat) (x : Str) : Bool := (N[i]? == some x) && (sc.names.lookup x == some .local)
def ngB (sc : Scope) (x : Str) : Bool := (sc.names.lookup x == some .globalImplicit) && !(x == "__debug__")
section
variable {X : Cx} {N : List Str} {sc : Scope} {i : Nat} {x : Str}
theorem nm_of [b : Bd X N sc] (i : Nat) (h : nmB N sc i x = true) : Nm X i x := by
  unfold nmB at h
  simp only [Bool.and_eq_true, Bool.not_eq_true', beq_iff_eq] at h
  obtain ⟨⟨⟨h1, h2⟩, h3⟩, h4⟩ := h
  refine ⟨by rw [b.N_]; exact h1, ?_, by simpa using h3, by simpa using h4⟩
  unfold L2.Vis
  rw [b.sc_]
  cases e : sc.names.lookup x with
  | none => rw [e] at h2; cases h2
  | some k => rw [e] at h2; cases k <;> first | exact .inl rfl | exact .inr (.inl rfl) | exact .inr (.inr rfl) | cases h2
theorem nl_of [b : Bd X N sc] [f : Fnt X] (i : Nat) (h : nlB N sc i x = true) : Nl X i x := by
  unfold nlB at h
  simp only [Bool.and_eq_true, beq_iff_eq] at h
  obtain ⟨h1, h2⟩ := h
  refine ⟨by rw [b.N_]; exact h1, ?_, .inl (f.fn_ x)⟩
  unfold L2.Loc
  rw [b.sc_]
  cases e : sc.names.lookup x with
  | none => rw [e] at h2; cases h2
  | some k => rw [e] at h2; cases k <;> first | exact .inl rfl | exact .inr rfl | cases h2
theorem nk_of [b : Bd X N sc] (i : Nat) (h : nkB N sc i x = true) : Nl X i x := by
  unfold nkB at h
  simp only [Bool.and_eq_true, beq_iff_eq] at h
  obtain ⟨h1, h2⟩ := h
  exact ⟨by rw [b.N_]; exact h1, .inl (by rw [b.sc_]; exact h2), .inr (by rw [b.sc_]; exact h2)⟩
theorem ng_of [b : Bd X N sc] (h : ngB sc x = true) : Ng X x := by
  unfold ngB at h
  simp only [Bool.and_eq_true, Bool.not_eq_true', beq_iff_eq] at h
  refine ⟨?_, by simpa using h.2⟩
  show X.env.scope.names.lookup x = _
  rw [b.sc_]; exact h.1
variable {P : Program} {w : World} {K : PySem.W.Frag} {mg : Str → Option Value} {base : Heap}
theorem tgN {k : Nat} [Cok k X] {ρ : List (Option RV)} {d : D} {py : Pos} (l : Nl X i x) (hi : i < ρ.length) : Tg X ρ (.Name x py) d (ρ.set i (some (.pu d))) [i] := tg_n i hi l.at_ l.loc l.fn

theorem nk_of_int [b : Bd X N sc] [i : Is X P w K mg base] {n : Int} (hm : ∃ t, mg x = some (.int n t)) (h : ngB sc x = true) : Nk X x (.int n) := by
  obtain ⟨t, e⟩ := hm
  obtain ⟨h1, h2, h3, h4, h5⟩ := i.is
  exact ⟨ng_of h, _, .int n, by rw [h4]; exact e, ⟨t, rfl⟩, fun G => .int n⟩
end

/-- THE RULE for a def: its body, in a context of which just this is told -/
theorem callee_by {P : Program} {w : World} {K : PySem.W.Frag} {mg : Str → Option Value} {base : Heap} {x qual : Str} {st : Stmt} {f : Addr} {fd : FuncData} {N ps : List Str} {k : Nat} {S : List RV → Ans → Prop} (F : Fun K x qual st f fd) (hm : mg x = some (.ref f)) (hp : ∀ x, x ∈ bnames → mg x = none) (sc : FnScope N ps (defScope st))
    (hb : ∀ (kV doc pm : Value) (an : Option Addr) (cdv ct : Value) (us : List Value), us.length = ps.length → bindArgs (PySem.W.fnOf x qual (defArgs st) (defBody st) (defScope st) .none kV doc pm an cdv ct) ⟨us, []⟩ = pure (ps.zip us))
    (hlen : ∀ args a, S args a → args.length = ps.length)
    (body : ∀ (X : Cx) [Cok k X] [Own X] [Is X P w K mg base] [Plain X] [Bd X N (defScope st)] [Fnt X], ∀ args a, S args a → Svb X (args.map some ++ List.replicate (N.length - args.length) none) [defBody st] (Ends1 a)) :
    Callee P w K mg base (k + 1) x ps S :=
  callee_of F hm sc hb hlen fun cdv A outer s H E c args a h => by
    have : Plain (BX P w K mg base N qual (defScope st) f cdv A outer s H E) := ⟨hp⟩
    exact body (BX P w K mg base N qual (defScope st) f cdv A outer s H E) args a h

/-! ### comprehensions over data -/
section
variable {X : Cx} {N : List Str} {sc : Scope} {ρ : List (Option RV)} {ds : List D} {elt tg iter : Expr} {ifs : List Expr} {scope : Scope} {pos spos py : Pos} {y : Str} {sts : List Stmt} {bs : List (List Stmt)} {O : Out → Prop} {k : Nat}
theorem evLc [Cok k X] [b : Bd X N sc] (own : List (Str × Nat)) (f : D → Option D) (hi : EvI X ρ tg iter ds) (ok : blkC N sc scope own = true) (hb : ∀ d ∈ ds, LcItem X scope ρ (own.map (·.2)) tg ifs elt d (f d)) (hz : ds.length ≤ sizeLine)
    (hs : ∀ x, foldedSetIterable iter X.env x = pure x) : Ev X ρ (.ListComp elt [⟨tg, iter, ifs, 0⟩] scope pos) (.ls (ds.filterMap f)) := by
  have h := ev_lcG (X := X) (ρ := ρ) (pos := pos) own (fun i => ds[i]?.bind f) hi (by rw [b.N_, b.sc_]; exact blkOk_by ok) (fun i d e => by
    rw [e]
    exact hb d (List.mem_of_getElem? e)) hz hs
  rw [range_map] at h
  exact h
/-- .. over the items xs, told as enc -/
theorem evLcT {α : Type} {xs : List α} {enc : α → D} [Cok k X] [b : Bd X N sc] (own : List (Str × Nat)) (f : α → Option D) (hi : EvI X ρ tg iter (xs.map enc)) (ok : blkC N sc scope own = true) (hb : ∀ x ∈ xs, LcItem X scope ρ (own.map (·.2)) tg ifs elt (enc x) (f x)) (hz : xs.length ≤ sizeLine)
    (hs : ∀ x, foldedSetIterable iter X.env x = pure x) : Ev X ρ (.ListComp elt [⟨tg, iter, ifs, 0⟩] scope pos) (.ls (xs.filterMap f)) :=
  ev_lc own f hi (by rw [b.N_, b.sc_]; exact blkOk_by ok) hb hz hs
variable {i : Nat}
theorem svbLcT {α : Type} {xs : List α} {enc : α → D} [Cok k X] [b : Bd X N sc] (own : List (Str × Nat)) (f : α → Option D) (l : Nl X i y) (hi : EvI X ρ tg iter (xs.map enc)) (ok : blkC N sc scope own = true) (hb : ∀ x ∈ xs, LcItem X scope ρ (own.map (·.2)) tg ifs elt (enc x) (f x)) (hz : xs.length ≤ sizeLine)
    (h : Svb X (ρ.set i (some (.ls (xs.filterMap f)))) (sts :: bs) O) (hlt : i < ρ.length) (hsc : (decide (sc.kind = .function) && (sc.names.lookup y == some .local) && (py.line == pos.line) && !(scope.names.any fun (n, k) => n == y && (k == .local || k == .cell))) = true)
    (hs : ∀ x, foldedSetIterable iter X.env x = pure x) : Svb X ρ ((.Assign [.Name y py] (.ListComp elt [⟨tg, iter, ifs, 0⟩] scope pos) spos :: sts) :: bs) O := by
  simp only [Bool.and_eq_true, decide_eq_true_eq, beq_iff_eq, Bool.not_eq_true'] at hsc
  obtain ⟨⟨⟨h1, h2⟩, h3⟩, h4⟩ := hsc
  exact svb_setlc i own f hi (by rw [b.N_, b.sc_]; exact blkOk_by ok) hb hz h hlt l.at_ (by rw [b.sc_]; exact h2) (sw_true (by rw [b.sc_]; exact h1) (by rw [b.sc_]; exact h2) (by simpa using h3) h4) hs
theorem svbLc [Cok k X] [b : Bd X N sc] (own : List (Str × Nat)) (f : D → Option D) (l : Nl X i y) (hi : EvI X ρ tg iter ds) (ok : blkC N sc scope own = true) (hb : ∀ d ∈ ds, LcItem X scope ρ (own.map (·.2)) tg ifs elt d (f d)) (hz : ds.length ≤ sizeLine)
    (h : Svb X (ρ.set i (some (.ls (ds.filterMap f)))) (sts :: bs) O) (hlt : i < ρ.length) (hsc : (decide (sc.kind = .function) && (sc.names.lookup y == some .local) && (py.line == pos.line) && !(scope.names.any fun (n, k) => n == y && (k == .local || k == .cell))) = true)
    (hs : ∀ x, foldedSetIterable iter X.env x = pure x) : Svb X ρ ((.Assign [.Name y py] (.ListComp elt [⟨tg, iter, ifs, 0⟩] scope pos) spos :: sts) :: bs) O := by
  simp only [Bool.and_eq_true, decide_eq_true_eq, beq_iff_eq, Bool.not_eq_true'] at hsc
  obtain ⟨⟨⟨h1, h2⟩, h3⟩, h4⟩ := hsc
  refine svb_setlcG i own (fun i => ds[i]?.bind f) hi (by rw [b.N_, b.sc_]; exact blkOk_by ok) (fun i d e => by
    rw [e]
    exact hb d (List.mem_of_getElem? e)) hz ?_ hlt l.at_ (by rw [b.sc_]; exact h2) (sw_true (by rw [b.sc_]; exact h1) (by rw [b.sc_]; exact h2) (by simpa using h3) h4) hs
  rw [range_map]
  exact h
theorem sw_cell {gs : List Comprehension} {l : Nat} {env : Env} (hy : env.scope.names.lookup y = some .cell) : swapsWith (.ListComp elt gs scope pos) (some (.Name y py)) l env = pure false := by
  have ky : env.kindOf y = some .cell := hy
  unfold swapsWith
  simp only [ky, show ((some NameKind.cell : Option NameKind) == some NameKind.local) = false from rfl, Bool.and_false, Bool.false_and]
  try rfl
/-- .. where y is looked at in blocks, too -/
theorem svbLcC [Cok k X] [b : Bd X N sc] (own : List (Str × Nat)) (f : D → Option D) (l : Nl X i y) (hi : EvI X ρ tg iter ds) (ok : blkC N sc scope own = true) (hb : ∀ d ∈ ds, LcItem X scope ρ (own.map (·.2)) tg ifs elt d (f d)) (hz : ds.length ≤ sizeLine)
    (h : Svb X (ρ.set i (some (.ls (ds.filterMap f)))) (sts :: bs) O) (hlt : i < ρ.length) (hs : ∀ x, foldedSetIterable iter X.env x = pure x)
    (hsw : sc.names.lookup y = some .cell) : Svb X ρ ((.Assign [.Name y py] (.ListComp elt [⟨tg, iter, ifs, 0⟩] scope pos) spos :: sts) :: bs) O :=
  svb_set i (evLc own f hi ok hb hz hs) h hlt l.at_ l.loc (sw_cell (by rw [b.sc_]; exact hsw)) l.fn
theorem svbLcCT {α : Type} {xs : List α} {enc : α → D} [Cok k X] [b : Bd X N sc] (own : List (Str × Nat)) (f : α → Option D) (l : Nl X i y) (hi : EvI X ρ tg iter (xs.map enc)) (ok : blkC N sc scope own = true) (hb : ∀ x ∈ xs, LcItem X scope ρ (own.map (·.2)) tg ifs elt (enc x) (f x)) (hz : xs.length ≤ sizeLine)
    (h : Svb X (ρ.set i (some (.ls (xs.filterMap f)))) (sts :: bs) O) (hlt : i < ρ.length) (hs : ∀ x, foldedSetIterable iter X.env x = pure x)
    (hsw : sc.names.lookup y = some .cell) : Svb X ρ ((.Assign [.Name y py] (.ListComp elt [⟨tg, iter, ifs, 0⟩] scope pos) spos :: sts) :: bs) O :=
  svb_set i (evLcT own f hi ok hb hz hs) h hlt l.at_ l.loc (sw_cell (by rw [b.sc_]; exact hsw)) l.fn
end
theorem fm_ite {α : Type} (p : α → Bool) (g : α → D) (xs : List α) : xs.filterMap (fun x => if p x = true then some (g x) else none) = (xs.filter p).map g := by
  induction xs with
  | nil => rfl
  | cons x xs ih =>
    rw [List.filterMap_cons, List.filter_cons]
    by_cases h : p x = true
    · simp [h, ih]
    · simp [h, ih]
theorem fm_some {α β : Type} (f : α → β) (xs : List α) : xs.filterMap (fun x => some (f x)) = xs.map f := by
  induction xs with
  | nil => rfl
  | cons x xs ih => simp
end DL

/-! data layer 9: what is owned moves; parts of tuples change -/
namespace DL
open PySem L2

section
variable {K : PySem.W.Frag} {G H : Hp}
/-- what a slot owns is taken out of it -/
theorem Sl.take {i : Nat} {r : RV} : ∀ {ρ : List (Option RV)} {σ : St} {F : List Addr}, Sl K G H ρ σ F → ρ[i]? = some (some r) → F.Nodup → ∃ v f F', σ[i]? = some (some v) ∧ RepR K G H v r f ∧ Sl K G H (ρ.set i none) σ F' ∧ (f ++ F').Nodup ∧ (∀ p ∈ f, p ∈ F) ∧ ∀ p ∈ F', p ∈ F := by
  induction i with
  | zero =>
    intro ρ σ F h hr nd
    cases h with
    | nil => simp at hr
    | any h => simp at hr
    | @has v r0 f ρ σ F0 hr0 h =>
      simp at hr
      subst hr
      exact ⟨v, f, F0, rfl, hr0, .any h, nd, fun p hp => List.mem_append_left _ hp, fun p hp => List.mem_append_right _ hp⟩
  | succ i ih =>
    intro ρ σ F h hr nd
    cases h with
    | nil => simp at hr
    | any h =>
      obtain ⟨v, f, F', a1, a2, a3, a4, a5, a6⟩ := ih h (by simpa using hr) nd
      exact ⟨v, f, F', by simpa using a1, a2, .any a3, a4, a5, a6⟩
    | @has v0 r0 f0 ρ σ F0 hr0 h =>
      obtain ⟨n1, n2, n3⟩ := List.nodup_append.mp nd
      obtain ⟨v, f, F', a1, a2, a3, a4, a5, a6⟩ := ih h (by simpa using hr) n2
      obtain ⟨m1, m2, m3⟩ := List.nodup_append.mp a4
      refine ⟨v, f, f0 ++ F', by simpa using a1, a2, .has hr0 a3, ?_, fun p hp => List.mem_append_right _ (a5 p hp), fun p hp => ?_⟩
      · refine List.nodup_append.mpr ⟨m1, List.nodup_append.mpr ⟨n1, m2, fun x hx y hy => n3 x hx y (a6 y hy)⟩, fun x hx y hy e => ?_⟩
        rcases List.mem_append.mp hy with z | z
        · exact n3 y z x (a5 x hx) e.symm
        · exact m3 x hx y z e
      · rcases List.mem_append.mp hp with z | z
        · exact List.mem_append_left _ z
        · exact List.mem_append_right _ (a6 p z)
end

section
variable {X : Cx} {ρ ρ' : List (Option RV)} {e : Expr} {es : List Expr} {x : Str} {i : Nat} {d : D} {ds : List D} {cs : List Cm} {pos py : Pos} {O : Out → Prop} {sts : List Stmt} {bs : List (List Stmt)}
/-- parts of a tuple; what owned slots held may go into it: ρ' is left -/
def EvM (X : Cx) (ρ : List (Option RV)) (es : List Expr) (cs : List Cm) (ρ' : List (Option RV)) : Prop := ∀ σ G H F (Q : List V → Hp → Prop), Okk X.K ρ σ G H F →
  (∀ vs G' H' f F', Tr G H G' H' → RepCs X.K G' H' vs cs f → Okk X.K ρ' σ G' H' F' → (f ++ F').Nodup → (∀ p ∈ f, p ∈ F ∨ H p = none) → (∀ p ∈ F', p ∈ F) → Q vs H') → cA X es σ H Q
theorem evm_nil : EvM X ρ [] [] ρ := fun σ G H F Q k q => cA_of pa_nil (q [] G H [] F (Tr.refl k.sub) .nil k k.nd (by simp) fun _ h => h)
theorem evm_ev {c : Cm} (ha : Ev X ρ e c.rv) (hr : EvM X ρ es cs ρ') (hs : notStar e = true) : EvM X ρ (e :: es) (c :: cs) ρ' := fun σ G H F Q k q => by
  refine cA_of (pa_cons pe_c pa_c (star_cons hs)) ?_
  refine ha σ G H F _ k fun v G1 H1 f t1 r1 n1 fr1 => ?_
  refine hr σ G1 H1 F _ (k.tr t1) fun vs G2 H2 g F' t2 r2 k2 n2 fr2 s2 => ?_
  have inH1 : ∀ p ∈ f, ∃ o, H1 p = some o := fun p hp => by
    obtain ⟨⟨xs, z⟩, _⟩ := r1.at p hp
    exact ⟨_, z⟩
  have noF : ∀ p ∈ f, p ∉ F := fun p hp z => k.fresh (fr1 p hp) z
  have rc : RepC X.K G2 H2 v c f := by
    cases c with
    | pu d => exact RepR.tr t2 (r := .pu d) r1
    | ls ds => exact RepR.tr t2 (r := .ls ds) r1
  obtain ⟨m1, m2, m3⟩ := List.nodup_append.mp n2
  refine q (v :: vs) G2 H2 (f ++ g) F' (t1.trans t2) (.cons rc r2) k2 ?_ (fun p hp => ?_) s2
  · rw [List.append_assoc]
    refine List.nodup_append.mpr ⟨n1, n2, fun a ha b hb z => ?_⟩
    subst z
    rcases List.mem_append.mp hb with w | w
    · rcases fr2 a w with w | w
      · exact noF a ha w
      · obtain ⟨o, z⟩ := inH1 a ha
        rw [w] at z; cases z
    · exact noF a ha (s2 a w)
  · rcases List.mem_append.mp hp with z | z
    · exact .inr (fr1 p z)
    · rcases fr2 p z with w | w
      · exact .inl w
      · exact .inr (t1.back w)
theorem evm_pu (ha : Ev X ρ e (.pu d)) (hr : EvM X ρ es cs ρ') (hs : notStar e = true) : EvM X ρ (e :: es) (.pu d :: cs) ρ' := evm_ev (c := .pu d) ha hr hs
theorem evm_ls (ha : Ev X ρ e (.ls ds)) (hr : EvM X ρ es cs ρ') (hs : notStar e = true) : EvM X ρ (e :: es) (.ls ds :: cs) ρ' := evm_ev (c := .ls ds) ha hr hs
theorem evm_mv (n : Nm X i x) (h : ρ[i]? = some (some (.ls ds))) (hr : EvM X (ρ.set i none) es cs ρ') : EvM X ρ (.Name x py :: es) (.ls ds :: cs) ρ' := fun σ G H F Q k q => by
  refine cA_of (pa_cons (pe_var n.at_ n.vis n.nd n.nc) pa_c (star_cons rfl)) ?_
  obtain ⟨v, f, F0, a1, a2, a3, a4, a5, a6⟩ := k.sl.take h k.nd
  obtain ⟨n1, n2, n3⟩ := List.nodup_append.mp a4
  refine ⟨v, a1, ?_⟩
  refine hr σ G H F0 _ ⟨k.sub, a3, n2⟩ fun vs G2 H2 g F' t2 r2 k2 m2 fr2 s2 => ?_
  have noF : ∀ p ∈ f, p ∉ F0 := fun p hp z => n3 p hp p z rfl
  refine q (v :: vs) G2 H2 (f ++ g) F' t2 (.cons (RepR.tr t2 (r := .ls ds) a2) r2) k2 ?_ (fun p hp => ?_) fun p hp => a6 p (s2 p hp)
  · rw [List.append_assoc]
    refine List.nodup_append.mpr ⟨n1, m2, fun a ha b hb z => ?_⟩
    subst z
    rcases List.mem_append.mp hb with w | w
    · rcases fr2 a w with w | w
      · exact noF a ha w
      · exact k.fresh w (a5 a ha)
    · exact noF a ha (s2 a w)
  · rcases List.mem_append.mp hp with z | z
    · exact .inl (a5 p z)
    · exact (fr2 p z).imp (a6 p) id
theorem RepCs.len {K : PySem.W.Frag} {G H : Hp} {vs : List V} {cs : List Cm} {f : List Addr} (h : RepCs K G H vs cs f) : vs.length = cs.length := by
  induction h with
  | nil => rfl
  | cons _ _ ih => exact congrArg Nat.succ ih
/-- return (a, b, ..), what is owned goes with it -/
theorem svbRetM {kk} (h : EvM X ρ es cs ρ') (o : O (.rt (.tp cs))) (hz : cs.length ≤ sizeLine) : Svb X ρ ((.Return (some (.Tuple es kk py)) pos :: sts) :: bs) O := svb_step fun σ G H F D k q => by
  refine cS_of (ps_ret pe_c) ?_
  refine cE_of (pe_tup pa_c) ?_
  refine h σ G H F _ k fun vs G1 H1 f F' t1 r1 k1 n1 fr1 s1 => ?_
  have hl : vs.length = cs.length := r1.len
  refine ⟨by rw [hl]; exact hz, fun p hp => ?_⟩
  have t2 := Tr.new (o := .tup vs) t1.gh hp
  exact q _ o _ _ _ f ⟨p, vs, rfl, upd_same, r1.tr t2⟩ (List.nodup_append.mp n1).1 ((t1.trans t2).toS fun a ha => fr1 a ha)
end

/-! ### a list that a tuple of one's own holds -/
theorem RepCs.alter {K : PySem.W.Frag} {G H : Hp} {vs : List V} {cs : List Cm} {f : List Addr} (h : RepCs K G H vs cs f) : ∀ {j : Nat} {ds : List D}, cs[j]? = some (.ls ds) → f.Nodup → ∃ p ws, vs[j]? = some (.ref p) ∧ p ∈ f ∧ H p = some (.lst ws) ∧ G p = none ∧ RpAll K G ws ds ∧
    ∀ (G' H' : Hp) (ws' : List V) (ds' : List D), Same G G' → (∀ q ∈ f, q ≠ p → G' q = none ∧ H' q = H q) → H' p = some (.lst ws') → G' p = none → RpAll K G' ws' ds' → RepCs K G' H' vs (cs.set j (.ls ds')) f := by
  induction h with
  | nil => intro j ds e; simp at e
  | @cons v c f vs cs g h1 h2 ih =>
    intro j ds e nd
    obtain ⟨n1, n2, n3⟩ := List.nodup_append.mp nd
    cases j with
    | zero =>
      simp at e
      subst e
      obtain ⟨p, ws, e1, e2, e3, e4, e5⟩ := h1
      subst e1 e2
      refine ⟨p, ws, rfl, by simp, e3, e4, e5, fun G' H' ws' ds' s u a b r => ?_⟩
      refine .cons (f := [p]) ⟨p, ws', rfl, rfl, a, b, r⟩ (h2.ch s fun q hq => u q (List.mem_append_right _ hq) fun z => n3 p (by simp) q hq z.symm)
    | succ j =>
      obtain ⟨p, ws, a1, a2, a3, a4, a5, a6⟩ := ih (j := j) (by simpa using e) n2
      refine ⟨p, ws, by simpa using a1, List.mem_append_right _ a2, a3, a4, a5, fun G' H' ws' ds' s u a b r => ?_⟩
      exact .cons (RepC.ch s (fun q hq => u q (List.mem_append_left _ hq) fun z => n3 q hq p a2 z) h1) (a6 G' H' ws' ds' s (fun q hq => u q (List.mem_append_right _ hq)) a b r)
theorem Okk.mutT {K : PySem.W.Frag} {G H : Hp} {ρ : List (Option RV)} {σ : St} {F : List Addr} {i j : Nat} {cs : List Cm} {ds : List D} (k : Okk K ρ σ G H F) (hr : ρ[i]? = some (some (.tp cs))) (hc : cs[j]? = some (.ls ds)) :
    ∃ t us p vs, σ[i]? = some (some (.ref t)) ∧ G t = some (.tup us) ∧ us[j]? = some (.ref p) ∧ H p = some (.lst vs) ∧ RpAll K G vs ds ∧
    ∀ G' H' vs' ds', Tr G H G' H' → RpAll K G' vs' ds' → ∃ F', Okk K (ρ.set i (some (.tp (cs.set j (.ls ds'))))) σ G' (upd H' p (.lst vs')) F' ∧ TrS F G H F' G' (upd H' p (.lst vs')) := by
  obtain ⟨v, f, a1, a2, a3, a4, a5⟩ := k.sl.alter hr k.nd
  obtain ⟨t, us, e1, e2, e3⟩ := a2
  subst e1
  obtain ⟨p, vs, b1, b2, b3, b4, b5, b6⟩ := e3.alter hc a3
  refine ⟨t, us, p, vs, a1, e2, b1, b3, b5, fun G' H' vs' ds' tr r' => ?_⟩
  have g' : G' p = none := tr.far p _ b3 (fun z => z) b4
  have keepF : ∀ q ∈ F, q ≠ p → G' q = none ∧ (upd H' p (.lst vs')) q = H q := fun q hq hne => by
    obtain ⟨⟨xs, z⟩, g⟩ := k.sl.at q hq
    exact ⟨tr.far q _ z (fun z => z) g, by rw [upd_ne hne, z]; exact tr.keep q _ z⟩
  have htp : t ≠ p := fun z => by rw [z, b4] at e2; cases e2
  obtain ⟨F', c1, c2, c3⟩ := a5 G' (upd H' p (.lst vs')) (.tp (cs.set j (.ls ds'))) f tr.gg (fun q hq hn => keepF q hq fun z => hn (z ▸ b2)) ⟨t, us, rfl, tr.gg _ _ e2, b6 G' _ vs' ds' tr.gg (fun q hq => keepF q (a4 q hq)) upd_same g' r'⟩ (fun q hq => hq) a3
  have sub : Same G' (upd H' p (.lst vs')) := fun a o h => by
    rw [upd_ne (ne_of_none h g')]; exact tr.gh a o h
  refine ⟨F', ⟨sub, c1, c2⟩, tr.gg, sub, fun a o h hn => ?_, fun a o h hn it g => tr.far a o h it g, fun q hq => .inl ?_⟩
  · rw [upd_ne (fun e : a = p => hn (by rw [e]; exact a4 p b2))]; exact tr.keep a o h
  · rcases c3 q hq with z | z
    · exact a4 q z
    · exact z.1
section
variable {X : Cx} {ρ : List (Option RV)} {e : Expr} {y : Str} {i j : Nat} {d : D} {ds : List D} {cs : List Cm} {pos pos' apos py ps pc : Pos} {kc : Nat} {O : Out → Prop} {sts : List Stmt} {bs : List (List Stmt)}
/-- t[j].append(e), t a tuple of one's own -/
theorem svbTpApp (n : Nm X i y) (hr : ρ[i]? = some (some (.tp cs))) (hc : cs[j]? = some (.ls ds)) (he : Ev X ρ e (.pu d)) (hz : ds.length < sizeLine) (h : Svb X (ρ.set i (some (.tp (cs.set j (.ls (ds ++ [d])))))) (sts :: bs) O) (hse : notStar e = true) {m : Int} (hm : m = (j : Int))
    (hbase : attributeBase (.Subscript (.Name y py) (.Constant (.int m) kc pc) ps) "append" X.env (eval (.Subscript (.Name y py) (.Constant (.int m) kc pc) ps) X.env) = eval (.Subscript (.Name y py) (.Constant (.int m) kc pc) ps) X.env := by rfl)
    (hfew : ((backTo pos (starEach [e] X.env)).all (fun x => !x.1) && (backToKw pos (keywordEach [] X.env)).all (fun x => x.1.isSome)
      && decide (([e] : List Expr).length + ([] : List Keyword).length + (if ([] : List Keyword).isEmpty then 0 else 1) < 30)) = true := by rfl)
    (hline : (apos.endLine == pos.line) = true := by rfl) : Svb X ρ ((.Expr (.Call (.Attribute (.Subscript (.Name y py) (.Constant (.int m) kc pc) ps) "append" apos) [e] [] pos) pos' :: sts) :: bs) O := svb_step fun σ G H F D k q => by
  have hst : starEach (e :: []) X.env = (false, eval e X.env) :: starEach [] X.env := star_cons hse
  refine cS_of (ps_expr (pe_bm PySem.F.plainAttrs_list PySem.F.slot_list_append PySem.F.type_list_append mt_append (pe_ix ix_tup (pe_var n.at_ n.vis n.nd n.nc) pe_int (fun _ _ => rfl)) (pa_cons pe_c pa_nil hst) hbase hfew hline hst (by rfl)) (by rfl)) ?_
  obtain ⟨t, us, p, vs, a1, a2, a3, a4, a5, a6⟩ := k.mutT hr hc
  have hat : atI us m = some (.ref p) := by
    have hl : j < us.length := (List.getElem?_eq_some_iff.mp a3).1
    unfold atI
    have hi : ixN us.length m = some j := by
      subst hm
      unfold ixN
      rw [if_pos (by omega)]
      simp [hl]
    rw [hi]
    exact a3
  refine ⟨_, a1, t, us, m, .ref p, rfl, rfl, SqT.of (k.sub _ _ a2), hat, tyV_list a4, he σ G H F _ k fun v G' H' f tr rp _ _ => ?_⟩
  obtain ⟨_, rp⟩ := rp
  refine ⟨p, vs, v, rfl, rfl, tr.keep _ _ a4, by rw [rpAll_length a5]; exact hz, ?_⟩
  obtain ⟨F', k', t'⟩ := a6 G' H' (vs ++ [v]) (ds ++ [d]) tr (rpAll_app (rpAll_mono tr.gg a5) (rpAll_one rp))
  exact h σ G' _ F' D k' fun o z => (q o z).tr t'
end

/-! ### cuts -/
theorem cutD_take {xs : List D} {n : Nat} (h : n ≤ xs.length) : cutD xs none (some (n : Int)) = xs.take n := by
  unfold cutD
  have e1 : HT.sIx xs.length 0 none = 0 := by simp [HT.sIx]
  have e2 : HT.sIx xs.length xs.length (some (n : Int)) = n := by rw [HT.sIx_nat]; omega
  rw [e1, e2]
  simp
theorem cutD_drop {xs : List D} {n : Nat} (h : n ≤ xs.length) : cutD xs (some (n : Int)) none = xs.drop n := by
  unfold cutD
  have e1 : HT.sIx xs.length 0 (some (n : Int)) = n := by rw [HT.sIx_nat]; omega
  have e2 : HT.sIx xs.length xs.length none = xs.length := by simp [HT.sIx]
  rw [e1, e2]
  exact List.take_of_length_le (by simp)
theorem cutD_drop1 {xs : List D} {n : Nat} (h : n + 1 ≤ xs.length) : cutD xs (some ((n : Int) + 1)) none = xs.drop (n + 1) := by
  have := cutD_drop (xs := xs) (n := n + 1) h
  simpa using this

/-! ### ways that meet -/
def OJ (R : List (Option RV) → Prop) (O : Out → Prop) : Out → Prop
  | .nx ρ => R ρ
  | .rt r => O (.rt r)
  | .bk ρ => O (.bk ρ)
  | .ct ρ => O (.ct ρ)
  | .ex ρ C => O (.ex ρ C)
theorem svbIfJ {X : Cx} {ρ : List (Option RV)} {O : Out → Prop} {c : Expr} {thn els sts : List Stmt} {bs : List (List Stmt)} {pos : Pos} {t : Bool} (R : List (Option RV) → Prop) (hc : EvT X ρ c t) (h1 : t = true → Svb X ρ [thn] (OJ R O)) (h2 : t = false → Svb X ρ [els] (OJ R O))
    (hk : ∀ ρ', R ρ' → Svb X ρ' (sts :: bs) O) : Svb X ρ ((.If c thn els pos :: sts) :: bs) O := by
  have go : ∀ {b : List Stmt}, Svb X ρ [b] (OJ R O) → Svb X ρ (b :: sts :: bs) O := fun h => svb_cut h (fun ρ1 z => hk ρ1 z) fun o z hn => by
    cases o with
    | nx ρ1 => exact absurd rfl (hn ρ1)
    | rt r => exact z
    | bk ρ1 => exact z
    | ct ρ1 => exact z
    | ex ρ1 C => exact z
  exact svb_if hc (fun e => go (h1 e)) (fun e => go (h2 e))
theorem svbRetO {X : Cx} {ρ : List (Option RV)} {O : Out → Prop} {sts : List Stmt} {bs : List (List Stmt)} {pos py : Pos} {y : Str} {i : Nat} {r : RV} (n : Nm X i y) (hr : ρ[i]? = some (some r)) (o : O (.rt r)) : Svb X ρ ((.Return (some (.Name y py)) pos :: sts) :: bs) O :=
  svb_retO i o hr n.at_ n.vis n.nd n.nc
/-- x[j] = e -/
theorem svbSetIx {X : Cx} {ρ : List (Option RV)} {O : Out → Prop} {sts : List Stmt} {bs : List (List Stmt)} {pos py apos : Pos} {y : Str} {i n : Nat} {e j : Expr} {d : D} {ds : List D} {m : Int} (l : Nm X i y) (hr : ρ[i]? = some (some (.ls ds))) (he : Ev X ρ e (.pu d)) (hj : EvP X ρ j (.int m)) (hn : ixN ds.length m = some n)
    (h : Svb X (ρ.set i (some (.ls (ds.set n d)))) (sts :: bs) O)
    (ha : ∀ v, assign (.Subscript (.Name y py) j apos) X.env v = (do
      let ov ← holding [v] (eval (.Name y py) X.env)
      let iv ← holding [v, ov] (eval j X.env)
      standAt apos
      holding [v, ov, iv] (setItem ov iv v)
      release [v, ov, iv] []) := by intro _; rfl)
    (hs : swapsWithSole [.Subscript (.Name y py) j apos] e pos.line X.env = pure false := by rfl) (hw : swappedStores [.Subscript (.Name y py) j apos] e X.env = pure none := by rfl)
    (h1 : (assignEach [.Subscript (.Name y py) j apos] X.env).map (·.2) = [assign (.Subscript (.Name y py) j apos) X.env] := by rfl) :
    Svb X ρ ((.Assign [.Subscript (.Name y py) j apos] e pos :: sts) :: bs) O := svb_setix i hr he hj hn h l.at_ l.vis l.nd l.nc ha hs hw h1
theorem ixN_nat {n i : Nat} (h : i < n) : ixN n (i : Int) = some i := by
  unfold ixN
  rw [if_pos (by omega)]
  simp [h]
theorem atI_nat {α : Type} {xs : List α} {i : Nat} : atI xs (i : Int) = xs[i]? := by
  unfold atI
  by_cases h : i < xs.length
  · rw [ixN_nat h]; rfl
  · have e : ixN xs.length (i : Int) = none := by
      unfold ixN
      rw [if_pos (by omega)]
      simp [h]
    rw [e, List.getElem?_eq_none (by omega)]
    rfl
theorem atI_int {xs : List Int} {i : Nat} (h : i < xs.length) : atI (xs.map PyData.int) (i : Int) = some (.int (xs.getD i 0)) := by
  rw [atI_nat, List.getElem?_map, List.getD_eq_getElem?_getD, List.getElem?_eq_getElem h]
  rfl
theorem cdiv_ok {i j : Int} (h1 : 0 < j) (h2 : j < 1073741824) : CDiv i j := ⟨h1, h2⟩
theorem cmul_l {i j : Int} (h1 : -(2 ^ 64) < i) (h2 : i < 2 ^ 64) : CMul i j := .inl ⟨h1, h2⟩
theorem cmul_r {i j : Int} (h1 : -(2 ^ 64) < j) (h2 : j < 2 ^ 64) : CMul i j := .inr ⟨h1, h2⟩
theorem cpow_ok {i j : Int} (h1 : 0 ≤ j) (h2 : j ≤ 1000000) (h3 : i.natAbs < 2 ^ 64) : CPow i j := ⟨h1, h2, h3⟩
/-- the i-th of whole numbers -/
def G (xs : List Int) (i : Int) : Int := xs.getD i.toNat 0
theorem atI_G {xs : List Int} {i : Int} (h0 : 0 ≤ i) (h1 : i < (xs.length : Int)) : atI (xs.map PyData.int) i = some (.int (G xs i)) := by
  obtain ⟨n, rfl⟩ := Int.eq_ofNat_of_zero_le h0
  rw [atI_int (by omega)]
  rfl
end DL

/-! several clauses «except X as n» -/
namespace DL
open PySem L2

section
open PySem.Spec PyProof.Rows
/-- a clause: its class, its name's slot, what its suite comes to -/
abbrev Cl := Value × Nat × (Addr → Value → Option Addr → TS)
def wNamed (K : PySem.W.Frag) (Wout : WX) (D : Ends) : List Cl → WX
  | [] => Wout
  | (c, i, ts) :: r => fun cls d σ H => ∃ b, PySem.W.exmOne K cls c = some b ∧
      (b = true → ∀ a, H a = none → ts a cls d { nx := fun σ' H' => D.nx (σ'.set i none) H', rt := D.rt, bk := fun σ' H' => D.bk (σ'.set i none) H', ct := fun σ' H' => D.ct (σ'.set i none) H' } (σ.set i (some (.ref a))) H) ∧
      (b = false → wNamed K Wout D r cls d σ H)
inductive ClsOk (X : Cx) : List ExceptHandler → List Cl → Prop
  | nil : ClsOk X [] []
  | cons {x n : Str} {c : Value} {i : Nat} {ts : Addr → Value → Option Addr → TS} {st : Stmt} {suite : List Stmt} {np pos' : Pos} {hds : List ExceptHandler} {l : List Cl} (hc : Names X x c) (hi : X.N[i]? = some n) (hl : X.env.kindOf n = some .local)
      (hsu : ∀ (a : Addr) (oe : Obj) (cls : Value) (d : Option Addr) (pn : List (Addr × Obj)), Zc cls d oe → (∃ vs, oe.data = .fields vs) → PSs (X.suite a ((a, oe) :: pn)) (st :: suite) (ts a cls d)) (r : ClsOk X hds l) :
      ClsOk X (.ExceptHandler (some (.Name x np)) (some n) (st :: suite) pos' :: hds) ((c, i, ts) :: l)
variable {X : Cx} {body : List Stmt} {h0 : ExceptHandler} {hds : List ExceptHandler} {l : List Cl} {pos : Pos} {tb : WX → TS} {Wout : WX}
/-- the clauses, one behind another, at an exception that has landed -/
theorem clauses_run {pins : List (Addr × Obj)} {σ : L2.St} {H : Hp} {D : Ends} {a : Addr} {B : Heap} {sI s3 : Shared} {cls : Value} {d : Option Addr} (ok : X.Ok) (hs : X.stack = X.env :: X.outer) (hf : X.env.frame = some X.env.locals) (hN : X.N.Nodup) (tk : Takes X Wout)
    (J : Inv X pins σ H sI) (nb : ∀ b o, sI.heap.get? b = some o → b ∉ frs X.stack → B.get? b = some o) (up : sI.heap.UpToSlots s3.heap) (na : H a = none) (os : s3.os = sI.os) (ag : AllBare s3.gens)
    (fl : PySem.HandSPX.FlyingZ B (X.env :: X.outer) a (Zc cls d) s3.heap) :
    ∀ {hs' : List ExceptHandler} {ls : List Cl}, ClsOk X hs' ls → wNamed X.K Wout D ls cls d σ H → wpAny (model X.prog X.w) X.A (handleBy (.ref a) X.env hs') (SP X pins D) X.xe s3 := by
  have J3 : Inv X pins σ H s3 := J.landed nb fl.1 up os ag
  obtain ⟨oe, vs, he, hz, hd⟩ := fl.there
  have out : ∀ {h : Heap} {o : Obj} {ws : Array Value}, h.FunFrames B (X.env :: X.outer) → h.get? a = some o → o.data = .fields ws → a ≠ X.env.locals ∧ a ∉ X.fs := fun {h o ws} ff e dd => by
    have no : a ∉ frs (X.env :: X.outer) := fun hm => by
      obtain ⟨_, o', e', hn⟩ := ff.mem hm
      rw [e] at e'
      cases e'
      exact hn _ dd
    refine ⟨fun z => no (List.mem_filterMap.mpr ⟨X.env, List.mem_cons_self, by rw [hf, z]⟩), fun hm => ?_⟩
    obtain ⟨q, hq, z⟩ := List.mem_filterMap.mp hm
    exact no (List.mem_filterMap.mpr ⟨q, List.mem_cons_of_mem _ hq, z⟩)
  obtain ⟨nL, nF⟩ := out fl.2.2.1 he hd
  have S3 := J3.suite he hd na nL nF
  intro hs' ls hk
  induction hk with
  | nil =>
    intro w
    refine wpAny_handleBy_nil ?_
    obtain ⟨_, _, _, o2, ws, T, oT, ts', e2, z2, d2, f2, _⟩ := id fl
    unfold PySem.passOn
    refine wpAny_bind (wpAny_field e2 d2 f2 ?_)
    rw [if_neg (show ¬ ((Value.ref T == Value.none) = true) from by simp)]
    have fin : wpAny (model X.prog X.w) X.A (setFlight (.ref a) X.env.frame) (fun _ s4 => wpAny (model X.prog X.w) X.A (throw (.ref a) : Sem Flow) (SP X pins D) X.xe s4) X.xe s3 := by
      rw [hf]
      refine PySem.HandSPX.setFlight_upZ fl fun h4 hh4 up4 => wpAny_throw (tk _ _ ?_)
      exact ⟨a, B, sI, pins, σ, H, cls, d, rfl, J, nb, up.trans up4, .inr (.inr (by rw [hs]; exact hh4)), na, os, ag, w⟩
    first
      | exact wpAny_bind (wpAny_pure (wpAny_bind fin))
      | exact wpAny_bind fin
  | @cons x n c i ts st suite np pos' hds2 l2 hc hi hl hsu r ih =>
    intro w
    obtain ⟨b, hb, hyes, hno⟩ := w
    refine wpAny_handleBy_cons (codeAny_handlers_test ?_) (by intro q; cases q)
    have LT : PySem.W.Looks (model X.prog X.w) s3.heap (typeOf (.ref a)) cls := fun A Q E s k q => wpAny_typeOf_ref (k _ _ he) (by rw [hz.1]; exact q)
    have test : ∀ {Q E : Value → Shared → Prop}, Q c s3 → wpAny (model X.prog X.w) (X.A.mark (some (.ref a))) (eval (.Name x np) X.env) Q E s3 := fun {Q E} q => by
      obtain ⟨hg, hdb, hm | ⟨hm, hv, hnn⟩⟩ := hc
      · exact ld_glob (X := X.suite a ((a, oe) :: (X.pn ++ pins))) S3 hg hm q hdb
      · exact ld_blt (X := X.suite a ((a, oe) :: (X.pn ++ pins))) S3 hg hm hv q hnn hdb
    refine test ((PySem.W.exm_one (M := model X.prog X.w) J3.kIn LT hb).here ?_)
    cases b with
    | false =>
      show wpAny _ X.A (handleBy (.ref a) X.env hds2) _ _ _
      exact ih (hno rfl)
    | true =>
      refine codeAny_handlers_suite_as ?_
      refine PySem.HandSPX.lands_againZ fl fun h4 fl4 up4 => ?_
      have J4 : Inv X pins σ H { s3 with heap := h4 } := J.landed nb fl4.1 (up.trans up4) os ag
      obtain ⟨oe4, vs4, he4, hz4, hd4⟩ := fl4.there
      have S4 := J4.suite he4 hd4 na nL nF
      refine store_ok (X := X.suite a ((a, oe4) :: (X.pn ++ pins))) (v := .ref a) S4 hN hi (.inl hl) rfl (fun s5 S5 => ?_) (.inr hl)
      refine wpAny_mono ((hsu a oe4 cls d (X.pn ++ pins) hz4 ⟨_, hd4⟩).run [] s5 _ H _ S5 (hyes rfl a na)) (fun f s6 hsp => ?_) (fun _ _ z => False.elim z)
      have gone : ∀ {σ6 : L2.St} {H6 : Hp} {Q : Shared → Prop}, Inv (X.suite a ((a, oe4) :: (X.pn ++ pins))) [] σ6 H6 s6 → (∀ s7, Inv X pins (σ6.set i none) H6 s7 → Q s7) →
          wpAny (model X.prog X.w) X.A (do bindName X.env n .none; unbindBehindTheSuite X.env n pos') (fun _ s7 => Q s7) X.xe s6 := fun {σ6 H6 Q} S6 hq => gone_ok (S6.unsuite ok) hN hi hl hq
      cases f with
      | ret u =>
        obtain ⟨v6, σ6, H6, S6, r6, q6⟩ := hsp
        exact gone S6 fun s7 J7 => ⟨_, _, _, J7, r6, q6⟩
      | next =>
        obtain ⟨σ6, H6, S6, q6⟩ := hsp
        exact gone S6 fun s7 J7 => ⟨_, _, J7, q6⟩
      | brk =>
        obtain ⟨σ6, H6, S6, q6⟩ := hsp
        exact gone S6 fun s7 J7 => ⟨_, _, J7, q6⟩
      | cont =>
        obtain ⟨σ6, H6, S6, q6⟩ := hsp
        exact gone S6 fun s7 J7 => ⟨_, _, J7, q6⟩
theorem ps_try_named (hs : X.stack = X.env :: X.outer) (hf : X.env.frame = some X.env.locals) (hN : X.N.Nodup) (tk : Takes X Wout)
    (hb : ∀ (W : WX) (pn : List (Addr × Obj)) (xe : Value → Shared → Prop), Takes (X.tr pn xe) W → PassesOwn (model X.prog X.w) X.A X.env xe → PSs (X.tr pn xe) body (tb W))
    (hh : ClsOk X (h0 :: hds) l) : PS X (.Try body (h0 :: hds) [] [] pos) (fun D σ H => tb (wNamed X.K Wout D l) D σ H) := by
  refine ⟨fun pins s σ H D I h => ?_⟩
  have ok := I.ok
  have hfr : X.A.frames = some (X.env :: X.outer) := by rw [ok.frames, hs]
  refine wpAny_Try_except (wpAny_mono ((hb (wNamed X.K Wout D l) (X.pn ++ pins) _ (fun u s' xx => ?_) PassesOwn.looking).run [] s σ H D (I.toTry _) h) (fun f s1 hsp => ?_) (fun e s1 he => he))
  · obtain ⟨a, B, sI, pins', σ', H', cls, d, rfl, J', nb, up, sky, na, os, ag, w⟩ := xx
    have sky' : Sky B (X.env :: X.outer) a (Zc cls d) X.env.locals s'.heap := by rw [← hs]; exact sky
    show wpAny (model X.prog X.w) X.A (noteFrame (.ref a) X.env) _ _ _
    refine Sky.land Zc.steady hfr hf sky' fun h3 fl3 up3 => ?_
    exact clauses_run (s3 := { s' with heap := h3 }) ok hs hf hN tk (J'.ofTry ok) nb (up.trans up3) na os ag fl3 hh w
  · cases f with
    | next =>
      obtain ⟨σ', H', J', q⟩ := hsp
      exact wpAny_execs_nil ⟨σ', H', J'.ofTry ok, q⟩
    | ret u =>
      obtain ⟨v, σ', H', J', r, q⟩ := hsp
      exact ⟨v, σ', H', J'.ofTry ok, r, q⟩
    | brk =>
      obtain ⟨σ', H', J', q⟩ := hsp
      exact ⟨σ', H', J'.ofTry ok, q⟩
    | cont =>
      obtain ⟨σ', H', J', q⟩ := hsp
      exact ⟨σ', H', J'.ofTry ok, q⟩
end

/-! ### «return [o, w][int(isinstance(e, A) and isinstance(e, B))]» -/
section
variable {X : Cx} {i : Nat} {n : Str} {o w A : Str} {a D S : Addr} {oe : Obj} {pn : List (Addr × Obj)} {j1 j2 : Nat} {p1 p2 p3 p4 p5 p6 p7 p8 q1 q2 q3 q4 q5 q6 q7 q8 : Pos}
def toldS (n o w A : Str) (j1 j2 : Nat) (p1 p2 p3 p4 p5 p6 p7 p8 q1 q2 q3 q4 q5 q6 q7 q8 : Pos) : List Stmt := [.Return (some (.Subscript (.List [.Constant (.str o) j1 p1, .Constant (.str w) j2 p2] p3)
  (.Call (.Name "int" p4) [.BoolOp .And [.Call (.Name "isinstance" q1) [.Name n q2, .Name A q3] [] q4, .Call (.Name "isinstance" q5) [.Name n q6, .Name "ValueError" q7] [] q8] p5] [] p6) p7)) p8]
theorem told_core (C : ExcC X.K D) (hz : Zc (.ref D) none oe) (hf : ∃ vs, oe.data = .fields vs) (nm : Nm X i n) (gI : Ng X "int") (gi : Ng X "isinstance") (gA : Ng X A) (gV : Ng X "ValueError") [Plain X] (hS : X.mg A = some (.ref S))
    (k1 : PySem.W.kitOne X.K (.ref D) (.ref S) = some true) (k2 : PySem.W.kitOne X.K (.ref D) (.type "ValueError") = some true) {Q : Ends} {σ : St} {H : Hp} {pins : List (Addr × Obj)} {s : Shared} (I : Inv (X.suite a ((a, oe) :: pn)) pins σ H s)
    (hσ : σ[i]? = some (some (.ref a))) (h : ∀ p, H p = none → Q.rt (.str w) (upd H p (.lst [.str o, .str w]))) :
    wpAny (model X.prog X.w) (X.suite a ((a, oe) :: pn)).A (execs (toldS n o w A j1 j2 p1 p2 p3 p4 p5 p6 p7 p8 q1 q2 q3 q4 q5 q6 q7 q8) X.env) (SP (X.suite a ((a, oe) :: pn)) pins Q) (fun _ _ => False) s := by
  have v : PE (X.suite a ((a, oe) :: pn)) (.Name n q2) (tVar i) := pe_var nm.at_ nm.vis nm.nd nm.nc
  have v' : PE (X.suite a ((a, oe) :: pn)) (.Name n q6) (tVar i) := pe_var nm.at_ nm.vis nm.nd nm.nc
  have is1 : PE (X.suite a ((a, oe) :: pn)) (.Call (.Name "isinstance" q1) [.Name n q2, .Name A q3] [] q4) _ :=
    pe_callB (call_isE C hz hf) gi.gl (plain (X := X) "isinstance") PyProof.Rows.boot_isinstance (pa_cons v (pa_cons (pe_glob (X := X.suite a ((a, oe) :: pn)) gA.gl hS (v := .ref S) rfl gA.nd) pa_nil))
  have is2 : PE (X.suite a ((a, oe) :: pn)) (.Call (.Name "isinstance" q5) [.Name n q6, .Name "ValueError" q7] [] q8) _ :=
    pe_callB (call_isE C hz hf) gi.gl (plain (X := X) "isinstance") PyProof.Rows.boot_isinstance (pa_cons v' (pa_cons (pe_bltn (X := X.suite a ((a, oe) :: pn)) gV.gl (plain (X := X) "ValueError") PyProof.Rows.Boot.«ValueError» (v := .ty "ValueError") rfl) pa_nil))
  have w1 := pss_one (ps_ret (pos := p8) (pe_ix (pos := p7) ix_list (pe_lst (pos := p3) (pa_cons (pe_str (x := o) (j := j1) (pos := p1)) (pa_cons (pe_str (x := w) (j := j2) (pos := p2)) pa_nil)))
    (pe_callTy (p := p4) (pos := p6) (X := X.suite a ((a, oe) :: pn)) call_int1 gI.gl (plain (X := X) "int") PyProof.Rows.boot_int (pa_cons (pe_and (pos := p5) is1 (pe_one is2)) pa_nil)) (fun _ _ => rfl)))
  refine w1.run pins s σ H Q I ?_
  refine ⟨small (by simp), fun p hp => ?_⟩
  refine ⟨_, hσ, .ref S, .ref S, true, rfl, fun u r => r, k1, true, rfl, ?_⟩
  rw [if_pos rfl]
  refine ⟨_, hσ, .ty "ValueError", .type "ValueError", true, rfl, fun u r => r, k2, ?_⟩
  refine .inr ⟨true, rfl, ?_⟩
  exact ⟨p, _, 1, .str w, rfl, rfl, SqL.of upd_same, rfl, h p hp⟩
/-- what such a suite comes to -/
def tsTold (i : Nat) (o : Str) (C : Addr) (w : Str) : Addr → Value → Option Addr → TS := fun a cls d D σ H => cls = .ref C ∧ d = none ∧ σ[i]? = some (some (.ref a)) ∧ ∀ p, H p = none → D.rt (.str w) (upd H p (.lst [.str o, .str w]))
def tcl (i : Nat) (o : Str) (p : Addr × Str) : Cl := (.ref p.1, i, tsTold i o p.1 p.2)
theorem told_cons {x : Str} {np pos' : Pos} {C S : Addr} {hds : List ExceptHandler} {l : List Cl} (hc : Names X x (.ref C)) (hi : X.N[i]? = some n) (hl : X.env.kindOf n = some .local) (E : ExcC X.K C) (nm : Nm X i n) (gI : Ng X "int") (gi : Ng X "isinstance") (gA : Ng X A) (gV : Ng X "ValueError") [Plain X] (hS : X.mg A = some (.ref S))
    (k1 : PySem.W.kitOne X.K (.ref C) (.ref S) = some true) (k2 : PySem.W.kitOne X.K (.ref C) (.type "ValueError") = some true) (r : ClsOk X hds l) :
    ClsOk X (.ExceptHandler (some (.Name x np)) (some n) (toldS n o w A j1 j2 p1 p2 p3 p4 p5 p6 p7 p8 q1 q2 q3 q4 q5 q6 q7 q8) pos' :: hds) (tcl i o (C, w) :: l) :=
  .cons hc hi hl (fun a oe cls d pn hz hf => ⟨fun pins s σ H D I h => by
    obtain ⟨rfl, rfl, h3, h4⟩ := h
    exact told_core E hz hf nm gI gi gA gV hS k1 k2 I h3 h4⟩) r
theorem wNamed_told {K : PySem.W.Frag} {Wout : WX} {D : Ends} {B : Addr} {w : Str} {σ : St} {H : Hp} (hi : i < σ.length) (h : ∀ p, H p = none → D.rt (.str w) (upd H p (.lst [.str o, .str w]))) :
    ∀ (Es : List (Addr × Str)), (∀ p ∈ Es, PySem.W.exmOne K (.ref B) (.ref p.1) = some (decide (B = p.1))) → Es.lookup B = some w → wNamed K Wout D (Es.map (tcl i o)) (.ref B) none σ H
  | [], _, e => by simp at e
  | p :: Es, hx, e => by
    refine ⟨_, hx p (by simp), fun hb a ha => ?_, fun hb => wNamed_told hi h Es (fun q hq => hx q (by simp [hq])) ?_⟩
    · have hb' : B = p.1 := by simpa using hb
      have ew : p.2 = w := by
        have : (p.1, p.2) = p := rfl
        rw [← this] at e
        simp only [List.lookup_cons, hb', beq_self_eq_true] at e
        exact Option.some.inj e
      refine ⟨by rw [hb'], rfl, by simp [hi], ?_⟩
      rw [ew]
      exact h
    · have hb' : ¬ B = p.1 := by simpa using hb
      have this : (p.1, p.2) = p := rfl
      rw [← this] at e
      have hq : (B == p.1) = false := by simpa using hb'
      simpa only [List.lookup_cons, hq] using e
end
section
variable {X : Cx} {N : List Str} {sc : Scope} {P : Program} {w : World} {K : PySem.W.Frag} {mg : Str → Option Value} {base : Heap} {pn : List (Addr × Obj)} {xe : Value → Shared → Prop} {k : Nat}
instance [c : Cok k X] : Cok k (X.tr pn xe) := ⟨c.room, c.calm, c.nd⟩
instance [c : Is X P w K mg base] : Is (X.tr pn xe) P w K mg base := ⟨c.is⟩
instance [c : Plain X] : Plain (X.tr pn xe) := ⟨c.pl⟩
instance [c : Bd X N sc] : Bd (X.tr pn xe) N sc := ⟨c.N_, c.sc_⟩
instance [c : Fnt X] : Fnt (X.tr pn xe) := ⟨c.fn_⟩
variable {ρ : List (Option RV)} {O O1 : Out → Prop} {body sts : List Stmt} {bs : List (List Stmt)} {h0 : ExceptHandler} {hds : List ExceptHandler} {pos : Pos} {i : Nat} {o : Str}
/-- as Post, with another wish for errors -/
def PostW (X : Cx) (W : WX) (D : Ends) (F : List Addr) (G H : Hp) : Out → Prop
  | .ex ρ C => ∀ σ' G' H' F', Okk X.K ρ σ' G' H' F' → TrS F G H F' G' H' → W (.ref C) none σ' H'
  | o => Post X D F G H o
theorem svbTryTold [Cok k X] [ow : Own X] [Is X P w K mg base] [Plain X] [Bd X N sc] [Fnt X] (Es : List (Addr × Str)) (hh : ClsOk X (h0 :: hds) (Es.map (tcl i o))) (hi : i < ρ.length)
    (hb : ∀ pn xe, [Own (X.tr pn xe)] → Svb (X.tr pn xe) ρ [body] O1) (hn : ∀ ρ1, O1 (.nx ρ1) → Svb X ρ1 (sts :: bs) O) (hr : ∀ r, O1 (.rt r) → O (.rt r)) (hk : ∀ ρ1, ¬ O1 (.bk ρ1) ∧ ¬ O1 (.ct ρ1))
    (he : ∀ ρ1 B, O1 (.ex ρ1 B) → ρ1.length = ρ.length ∧ (∀ p ∈ Es, PySem.W.exmOne X.K (.ref B) (.ref p.1) = some (decide (B = p.1))) ∧ ∃ w, Es.lookup B = some w ∧ O (.rt (.pu (.str w)))) :
    Svb X ρ ((.Try body (h0 :: hds) [] [] pos :: sts) :: bs) O := svb_step fun σ G H F D kk q => by
  refine cS_of (ps_try_named (Wout := WM X) (tb := fun W D σ H => ∃ G F, Okk X.K ρ σ G H F ∧ ∀ o, O1 o → PostW X W D F G H o) ow.stk ow.frm (Cok.nd (X := X)) takesM (fun W pn xe tk own => ⟨fun pins s σ H D I h => ?_⟩) hh) ⟨G, F, kk, fun oc z => ?_⟩
  · obtain ⟨G, F, k1, q1⟩ := h
    have : Own (X.tr pn xe) := ⟨own, ow.stk, ow.frm⟩
    refine hb pn xe σ G H F D k1 (fun oc z => ?_) pins s I
    have q2 := q1 oc z
    cases oc with
    | ex ρ1 C => exact fun σ' G' H' F' k2 t2 => WM.of tk (q2 σ' G' H' F' k2 t2)
    | nx ρ1 => exact q2
    | rt r => exact q2
    | bk ρ1 => exact q2
    | ct ρ1 => exact q2
  · cases oc with
    | nx ρ1 => exact fun σ' G' H' F' k2 t2 => hn ρ1 z σ' G' H' F' D k2 fun o2 z2 => (q o2 z2).tr t2
    | rt r => exact q _ (hr r z)
    | bk ρ1 => exact ((hk ρ1).1 z).elim
    | ct ρ1 => exact ((hk ρ1).2 z).elim
    | ex ρ1 C =>
      intro σ' G' H' F' k2 t2
      obtain ⟨hl, hx, w, e1, e2⟩ := he ρ1 C z
      refine wNamed_told (by rw [← k2.sl.len, hl]; exact hi) (fun p hp => ?_) Es hx e1
      exact q _ e2 _ G' (upd H' p (.lst [.str o, .str w])) [] ⟨rfl, .str w⟩ (by simp) ((t2.trans ((Tr.newO k2.sub hp).toS (F := F') (F' := []) (by simp))))
end
end DL

/-! the law's def: called by the one who asks; there, repr is at hand -/
namespace DL
open PySem L2

/-- no repr runs around -/
class Gd (X : Cx) : Prop where
  gd : X.A.guards = some []
section
open PySem.W PySem.Spec PyProof.Rows
variable {P : Program} {w : World} {K : PySem.W.Frag} {mg : Str → Option Value} {base : Heap}
/-- a def by its body, at one place -/
theorem fn_here {k : Nat} {f : Addr} {x qual : Str} {st : Stmt} {fd : FuncData} {N ps : List Str} {A : Around} {outer : List Env} {s : Shared} {H : Hp} {args : Args} {us : List Value} {vs : List V} {Q : VK} {E : XK} (F : L2.Fun K x qual st f fd) (S : FnScope N ps (defScope st))
    (hl : vs.length = ps.length) (hr : Room (k + 1) A) (e0 : Env0 P w K mg base A outer s H) (hb : BindsTo s fd args (ps.zip us)) (r : Vals vs us)
    (hbody : ∀ cdv, Room k (A.deeper (envOfC qual (defScope st) s.heap.objs.size f cdv)) →
      ∃ t, PSs (cxOf (L2.CX P w) P w K mg base N qual (defScope st) f cdv A outer s H E) (defBody st) t ∧ t { nx := fun _ H' => Q .non H', rt := Q } (L2.start N vs) H) :
    codeAny (model P w) A (.call (.ref f) args) (CR (L2.CX P w) outer P w H s Q E) s := by
  obtain ⟨oc, od, kV, doc, pm, an, cdv, ct, osl, rfl, lk, hcd⟩ := F.ex
  have KX : K.In s.heap := e0.mod.kin.keeps fun b o e => (e0.bs b o e).1
  have lim : s.heap.NoLimit := e0.mod.nolimit.keeps fun b o e => (e0.bs b o e).1
  have hkind : ∀ y ∈ ps.zip us, (defScope st).names.lookup y.1 = some .local ∨ ((defScope st).names.lookup y.1 = some .cell ∧ ((cellsFrom (s.heap.objs.size + 1) (defScope st).names []).lookup y.1).isSome = true) := fun y hy => by
    obtain ⟨n, v⟩ := y
    rcases S.par n (List.of_mem_zip hy).1 with q | q
    · exact .inl q
    · exact .inr ⟨q, cellsFrom_some _ _ _ (.inl q)⟩
  refine codeAny_call_function hr.depth (KX _ _ lk) rfl S.co S.gen rfl (codeRec_of KX hcd) (hb _ _ _ _ ?_)
  refine wpAny_newFunctionEnv_cells S.kind hkind fun env he s1 x => ?_
  subst he
  refine ⟨lim.keeps x.toInCall.keep, codeAny_func ?_⟩
  obtain ⟨t, ht, hq⟩ := hbody cdv (hr.deeper _)
  have I := inv_start (CX := L2.CX P w) (E := E) S hr.hd e0 hl r x
  refine wpAny_mono (ht.run [] s1 (L2.start N vs) H _ I hq) (fun fl s' hs => ?_) fun e s' hs => hs
  rcases fl with u | _ | _ | _
  all_goals first
    | (obtain ⟨v, σ', H', J, rv, q⟩ := hs; exact ⟨v, H', J.os, J.bare, J.base, J.hok, rv, q⟩)
    | (obtain ⟨σ', H', J, q⟩ := hs; exact ⟨.non, H', J.os, J.bare, J.base, J.hok, rfl, q⟩)
    | (obtain ⟨_, _, _, q⟩ := hs; exact q.elim)
/-- the law's promise, at the heap behind the top -/
theorem law_here {k : Nat} {fa a : Addr} {st : Stmt} {fd : FuncData} {N : List Str} {x : Str} {mb : Str → Option Value} {s₁ : Shared} {vs : List Value} {ns : List Int} (F : L2.Fun K "law" "law" st fa fd) (S : FnScope N [x] (defScope st)) (hr : Room (k + 1) callerA)
    (KX : K.In s₁.heap) (hns : s₁.heap.Ns mainGlobals mg) (hb : s₁.heap.Ns builtinsNs mb) (hbb : ∀ x : Str, x ≠ "__name__" → mb x = bootBuiltins x) (hlim : s₁.heap.NoLimit) (hg : s₁.gens = #[])
    (ha : s₁.heap.get? a = some { cls := .type "list", data := .seq vs.toArray }) (hi : IntsAre vs ns) (hl : ns.length ≤ sizeLine) (hbind : ∀ (s : Shared) (u : Value), BindsTo s fd ⟨[u], []⟩ [(x, u)]) (hp : ∀ x, x ∈ bnames → mg x = none)
    (body : ∀ (base : Heap), Mod K mg base → ∀ (X : Cx) [Cok k X] [Own X] [Is X P w K mg base] [Plain X] [Bd X N (defScope st)] [Fnt X] [Gd X], Svb X (some (.fz (ns.map PyData.int)) :: List.replicate (N.length - 1) none) [defBody st] (Ends1 (.ok (.pu (.bool true))))) :
    codeAny (model P w) callerA (.call (.ref fa) ⟨[.ref a], []⟩) (fun r s' => r = .ok (.ret (.bool true)) ∧ OldK s₁.heap s'.heap ∧ s'.os = s₁.os ∧ AllBare s'.gens) s₁ := by
  have rv : Vals (ns.map V.int) vs := vals_ints hi
  have lenV := hi.length
  have goal : ∀ H : Hp, Only H → SqL K H a (ns.map V.int) → HOk P w H s₁.heap → (∀ b, H b ≠ none → b = a) → (H a ≠ none → K.lookup a = none) →
      codeAny (model P w) callerA (.call (.ref fa) ⟨[.ref a], []⟩) (fun r s' => r = .ok (.ret (.bool true)) ∧ OldK s₁.heap s'.heap ∧ s'.os = s₁.os ∧ AllBare s'.gens) s₁ := fun H hO hS hok hA hK => by
    have at_a : ∀ {b : Addr}, H b ≠ none → s₁.heap.get? b = some { cls := .type "list", data := .seq vs.toArray } ∧ K.lookup b = none := fun {b} z => by
      have e := hA b z
      subst e
      exact ⟨ha, hK z⟩
    have free_of : ∀ {b : Addr} {o : Obj}, s₁.heap.get? b = some o → (∀ n, o.data ≠ .seq vs.toArray n) → H b = none := fun {b o} e hd => by
      cases q : H b with
      | none => rfl
      | some u =>
        have z := (at_a (by rw [q]; simp)).1
        rw [e] at z; cases z
        exact absurd rfl (hd _)
    have nsH : ∀ {b : Addr} {m : Str → Option Value}, s₁.heap.Ns b m → (hidT s₁.heap H).Ns b m := fun {b m} n => by
      obtain ⟨o, es, ep, e, d, r⟩ := n
      exact ⟨o, es, ep, hidT_get e (free_of e fun n z => by rw [d] at z; cases z), d, r⟩
    have kinH : K.In (hidT s₁.heap H) := fun b o e => hidT_get (KX b o e) (by
      cases q : H b with
      | none => rfl
      | some u =>
        have z := (at_a (by rw [q]; simp)).2
        rw [z] at e; cases e)
    have hM : Mod K mg (hidT s₁.heap H) := ⟨kinH, nsH hns, ⟨mb, nsH hb, hbb⟩, by obtain ⟨mc, h1, h2⟩ := hlim; exact ⟨mc, nsH h1, h2⟩⟩
    have e0 : Env0 P w K mg (hidT s₁.heap H) callerA [] s₁ H := ⟨rfl, hM, fun b o e => of_hidT e, Nat.le_of_eq (hidT_size _ _), trivial, fun b hb => absurd (show b ∈ ([] : List Addr) from hb) (by simp), hok, .of_eq hg⟩
    have run : codeAny (model P w) callerA (.call (.ref fa) ⟨[.ref a], []⟩) (CR (L2.CX P w) [] P w H s₁ (fun v H' => v = .bl true) fun _ _ _ => False) s₁ := by
      refine fn_here (vs := [.ref a]) (us := [.ref a]) F S rfl hr e0 (hbind s₁ (.ref a)) (.cons rfl .nil) fun cdv hrk => ?_
      refine ⟨cSs (BX P w K mg (hidT s₁.heap H) N "law" (defScope st) fa cdv callerA [] s₁ H (fun _ _ _ => False)) (defBody st), pss_c, ?_⟩
      have c1 : Cok k (BX P w K mg (hidT s₁.heap H) N "law" (defScope st) fa cdv callerA [] s₁ H (fun _ _ _ => False)) := ⟨hrk, rfl, S.nd⟩
      have c2 : Plain (BX P w K mg (hidT s₁.heap H) N "law" (defScope st) fa cdv callerA [] s₁ H (fun _ _ _ => False)) := ⟨hp⟩
      have c3 : Gd (BX P w K mg (hidT s₁.heap H) N "law" (defScope st) fa cdv callerA [] s₁ H (fun _ _ _ => False)) := ⟨rfl⟩
      have rr : RepRs K H H [.ref a] [.fz (ns.map PyData.int)] [] := .cons (f := []) (g := []) ⟨rfl, a, _, rfl, hS, ints_rpAll⟩ .nil
      have sl := sl_start rr (N.length - 1)
      refine body _ hM (BX P w K mg (hidT s₁.heap H) N "law" (defScope st) fa cdv callerA [] s₁ H (fun _ _ _ => False)) _ H H [] { nx := fun _ H' => (V.non : V) = .bl true, rt := fun v H' => v = .bl true } ⟨Same.refl _, sl, by simp⟩ fun o z => ?_
      cases o with
      | rt r =>
        have z : Ans.ok (.pu (.bool true)) = .ok r := z
        cases z
        exact fun v G' H' f rp _ _ => rp_bool rp.2
      | nx ρ => cases (show Ans.ok (.pu (.bool true)) = .ok (.pu .none) from z)
      | ex ρ C => cases (show Ans.ok (.pu (.bool true)) = .er C from z)
      | bk ρ => exact z.elim
      | ct ρ => exact z.elim
    refine codeAny_mono run fun r s' h => ?_
    cases r with
    | error e =>
      obtain ⟨_, _, _, _, _, _, _, _, _, _, _, _, z⟩ := h
      cases z
    | ok fl =>
      cases fl with
      | next => exact False.elim h
      | brk => exact False.elim h
      | cont => exact False.elim h
      | ret u =>
        obtain ⟨v, H', os, bare, un, hok', r', q⟩ := h
        have q : v = .bl true := q
        subst q
        obtain rfl : u = Value.bool true := r'
        refine ⟨rfl, OldK.of_keep fun b o e => ?_, os, bare⟩
        rcases hO b with q | ⟨ob, xs, q⟩
        · exact un.keep b o e q (by intro z; exact absurd (show b ∈ ([] : List Addr) from z) (by simp)) (by simp)
        · obtain ⟨e1, _⟩ := hok b _ q
          obtain ⟨e2, _⟩ := hok' b _ (un.frzs b ob _ q)
          rw [e] at e1; cases e1
          exact e2
  cases hk : K.lookup a with
  | some o =>
    have e := KX a o hk
    rw [ha] at e
    cases e
    exact goal (fun _ => none) (fun _ => .inl rfl) (.inr ⟨_, vs.toArray, _, hk, rfl, rfl, rfl, by rw [List.size_toArray, lenV]; exact hl, by simpa using rv⟩) (fun b u z => by cases (show (none : Option HO) = some u from z)) (fun b z => absurd rfl z) fun z => absurd rfl z
  | none =>
    have one : ∀ b, (if b = a then some (HO.frz { cls := .type "list", data := .seq vs.toArray } (.lst (ns.map V.int))) else none) ≠ none → b = a := fun b z => by
      by_cases e : b = a
      · exact e
      · exact absurd (if_neg e) z
    refine goal (fun b => if b = a then some (.frz { cls := .type "list", data := .seq vs.toArray } (.lst (ns.map V.int))) else none) (fun b => ?_) (.inl (.inr ⟨{ cls := .type "list", data := .seq vs.toArray }, if_pos rfl⟩)) (fun b u z => ?_) one fun _ => hk
    · by_cases e : b = a
      · exact .inr ⟨_, _, if_pos e⟩
      · exact .inl (if_neg e)
    · have e := one b (fun q => by
        have z' : (if b = a then some (HO.frz { cls := .type "list", data := .seq vs.toArray } (.lst (ns.map V.int))) else none) = some u := z
        rw [q] at z'; cases z')
      subst e
      cases (if_pos rfl).symm.trans z
      exact ⟨ha, by rw [List.length_map]; exact hl, vs, _, rv, ha⟩
end
open PySem.W PySem.Spec PyProof.Rows in
/-- the goal that k_head leaves -/
theorem walk_here {l : PySem.W.OpenLaw} {k : Nat} {q : Program} {loose : List Str} {XP : (Str → Option Value) → Heap → Prop} {YP : World → Heap → Prop} {d : DefRec} {K : Params → PySem.W.Frag} {st : Stmt} {N : List Str} {x : Str}
    (hn : l.most = some 63) (hdf : d.params.defaults = []) (hr : Room (k + 1) callerA) (S : FnScope N [x] (defScope st)) (hY : ∀ (w : World) (h : Heap), YP w h → (K w.params).In h)
    (F : ∀ (w : World) (mg : Str → Option Value) (fa : Addr) (h : Heap), (K w.params).In h → h.Ns mainGlobals mg → mg d.name = some (.ref fa) →
      ∃ fd : FuncData, L2.Fun (K w.params) "law" "law" st fa fd ∧ (∀ (s : Shared) (u : Value), BindsTo s fd ⟨[u], []⟩ [(x, u)]) ∧ (∀ x, x ∈ bnames → mg x = none) ∧
        ∀ (ns : List Int), ns.length ≤ 63 → ∀ (base : Heap), Mod (K w.params) mg base → ∀ (X : Cx) [Cok k X] [Own X] [Is X l.prog w (K w.params) mg base] [Plain X] [Bd X N (defScope st)] [Fnt X] [Gd X], Svb X (some (.fz (ns.map PyData.int)) :: List.replicate (N.length - 1) none) [defBody st] (Ends1 (.ok (.pu (.bool true))))) :
    PySem.W.WalkO q loose XP YP l.row.toRowW d [] (fun f vs => PySem.call f vs) := by
  refine Att.attach_call hn hdf fun w s₀ s₁ mg mb fa o pm cd doc a vs ns G Y ho hd hcd hmg hobj hints hlen hg => ?_
  have KX := hY w _ Y
  obtain ⟨fd, h1, h2, h3, h4⟩ := F w mg fa _ KX G.T.g hmg
  exact law_here h1 S hr KX G.T.g G.T.b G.T.builtins G.T.nolimit hg hobj hints (Nat.le_trans hlen (by decide)) h2 h3 (h4 ns hlen)

/-! ### repr, and texts -/
section
variable {X : Cx} {ρ : List (Option RV)} {e : Expr} {d : D} {p pos : Pos} {s t : Str}
/-- may be shown -/
structure Shw (d : D) : Prop where
  sh : d.showable = true
  nd : d.hasDict = false
  dp : d.depth ≤ 60
  sz : d.shown.length ≤ sizeLine
def isRef : D → Bool
  | .list _ => true
  | .tuple _ => true
  | _ => false
theorem c_repr {k : Nat} [Cok k X] [Gd X] (h : Shw d) (hd : isRef d = true) : RelC X (.builtin "repr") [d] (.str d.shown) :=
  ⟨fun xs H Q => ∃ v, xs = [v] ∧ Rp X.K H v d ∧ Q (.str d.shown) H, fun pins s σ H xs us Q I r h' => by
    obtain ⟨v, rfl, hv, q⟩ := h'
    obtain ⟨u, rfl, rv⟩ := vals1 r
    obtain ⟨as, rd⟩ := Dp.reads I d v u hv.dp rv
    have hu := Cok.hu64 X
    obtain ⟨a, rfl⟩ : ∃ a, u = .ref a := by
      cases hv with
      | lst _ _ => exact ⟨_, rv⟩
      | tup _ _ => exact ⟨_, rv⟩
      | non => cases hd
      | bl _ => cases hd
      | int _ => cases hd
      | str _ => cases hd
    exact PySem.repr_of_reads' rd h.sh (fun z => by rw [h.nd] at z; cases z) (Gd.gd (X := X)) (by have := h.dp; omega) (fun _ _ z => z) (fun h' u tk hk => ⟨.str d.shown, H, I.kept hk, ⟨_, rfl⟩, q⟩) h.sz, fun vs H Q r q => by
    obtain ⟨v, rfl, hv⟩ := rp1 r
    exact ⟨v, rfl, hv, q _ (.str _)⟩⟩
theorem evRepr {k : Nat} [Cok k X] [Gd X] [Plain X] (h : EvP X ρ e d) (hs : Shw d) (hd : isRef d = true) (g : Ng X "repr") (hst : notStar e = true) : EvP X ρ (.Call (.Name "repr" p) [e] [] pos) (.str d.shown) :=
  evp_bi (c_repr hs hd) (evap_cons h evap_nil hst) (plain _) PyProof.Rows.boot_repr g.gl (by simp [hst])
theorem r_eqS : Rel2 X (compareOp .Eq) (.str s) (.str t) (.bool (decide (s = t))) :=
  ⟨_, op_eq, fun v u H Q r1 r2 q => by
    cases rp_str r1
    cases rp_str r2
    refine ⟨rfl, ?_⟩
    have e : decide (V.str s = V.str t) = decide (s = t) := by simp
    rw [e]
    exact q _ (.bl _)⟩
theorem r_neS : Rel2 X (compareOp .NotEq) (.str s) (.str t) (.bool (!decide (s = t))) :=
  ⟨_, op_ne, fun v u H Q r1 r2 q => by
    cases rp_str r1
    cases rp_str r2
    refine ⟨rfl, ?_⟩
    have e : decide (V.str s = V.str t) = decide (s = t) := by simp
    rw [e]
    exact q _ (.bl _)⟩
end
end DL

/-! what the written part says, brought together -/
namespace DL
open PySem L2
section
variable {P : Program} {K : PySem.W.Frag} {h : Heap} {mg : Str → Option Value} {x qual : Str}
/-- a def of the module -/
theorem fun_of {st : Stmt} {f : Addr} {oc : Value} {od an : Option Addr} {osl : Array (Option Value)} {kV doc pm cdv ct : Value} (X : K.In h) (G : h.Ns mainGlobals mg) (a : PySem.W.nsIn K mainGlobals x = some (some (.ref f)))
    (l : K.lookup f = some ⟨oc, od, .func (PySem.W.fnOf x qual (defArgs st) (defBody st) (defScope st) .none kV doc pm an cdv ct), osl⟩) (c : PySem.W.codeIn K cdv qual = true) (k : PySem.W.keepIn K (.ref f) = true) :
    ∃ f fd, L2.Fun K x qual st f fd ∧ mg x = some (.ref f) := ⟨f, _, fun_mk l c k, PySem.W.mg_of X G a⟩
/-- a module's number -/
theorem int_of {n : Int} {t : Tok} (X : K.In h) (G : h.Ns mainGlobals mg) (a : PySem.W.nsIn K mainGlobals x = some (some (.int n t))) : ∃ t, mg x = some (.int n t) := ⟨t, PySem.W.mg_of X G a⟩
theorem plain_of (X : K.In h) (G : h.Ns mainGlobals mg) (a : ∀ x, x ∈ bnames → PySem.W.nsIn K mainGlobals x = some none) : ∀ x, x ∈ bnames → mg x = none := fun x hx => PySem.W.mg_none_of X G (a x hx)
/-- an error's class -/
structure ErrB (P : Program) (K : PySem.W.Frag) (mg : Str → Option Value) (x : Str) (C S : Addr) : Prop where
  at_ : ∃ fI, ErrT P K C fI
  mg_ : mg x = some (.ref C)
  cl : ExcC K C
  kS : PySem.W.kitOne K (.ref C) (.ref S) = some true
  kV : PySem.W.kitOne K (.ref C) (.type "ValueError") = some true
  mgS : mg "SkyError" = some (.ref S)
  cd : ∃ cd, PySem.W.clsIn K C = some cd ∧ cd.name = x ∧ cd.mro = [.ref C, .ref S, .type "ValueError", .type "Exception", .type "BaseException", .type "object"]
  ne : C ≠ S
theorem ErrB.exm {x' : Str} {C C' S : Addr} (A : ErrB P K mg x C S) (B : ErrB P K mg x' C' S) : PySem.W.exmOne K (.ref C) (.ref C') = some (decide (C = C')) := by
  obtain ⟨fI, T⟩ := B.at_
  refine PySem.W.exm_ref B.cl.hs B.cl.hd T.tyC ?_
  obtain ⟨cd, h1, _, h3⟩ := A.cd
  have hne := B.ne
  show PySem.W.mroIn K C (.ref C') = _
  unfold PySem.W.mroIn
  rw [h1, Option.bind_some, h3, if_neg (by simp)]
  congr 1
  rw [Bool.eq_iff_iff]
  simp only [List.contains_iff_mem, List.mem_cons, decide_eq_true_eq, List.not_mem_nil, or_false]
  constructor
  · rintro (h | h | h | h | h | h)
    · exact (Value.ref.inj h).symm
    · exact absurd (Value.ref.inj h) hne
    all_goals cases h
  · intro h
    exact .inl (by rw [h])
theorem ErrB.apart {x' : Str} {C C' S : Addr} (A : ErrB P K mg x C S) (B : ErrB P K mg x' C' S) (hx : x ≠ x') : C ≠ C' := fun e => by
  obtain ⟨cd, h1, h2, _⟩ := A.cd
  obtain ⟨cd', h1', h2', _⟩ := B.cd
  rw [e, h1'] at h1
  cases h1
  exact hx (h2.symm.trans h2')
theorem err_of {C S fI cda cc : Addr} {st : Stmt} {q qual : Str} {N : Addr} {bs : List Value} {sn : List Str} {sub : List Value} {ab : Bool} {col : Option Bool} {dd : Option Addr} {k0 k1 k2 k3 k5 : Option Value} {oc doc pm ct : Value} {od an : Option Addr} {osl : Array (Option Value)}
    {txt : Str} {j : Nat} {p1 q1 q2 q3 q4 q5 q6 : Pos} {ccl : Value} {cdd : Option Addr} {vs : Array Value} {ccs : Array (Option Value)} {file : Str} {tf : Tok} {cl : Value} {cld : Option Addr} {csl : Array (Option Value)} (X : K.In h) (G : h.Ns mainGlobals mg)
    (aS : PySem.W.nsIn K mainGlobals "SkyError" = some (some (.ref S))) (aC : PySem.W.nsIn K mainGlobals x = some (some (.ref C)))
    (xL : K.lookup C = some (excClassObj x q C N bs [.ref S, .type "ValueError", .type "Exception", .type "BaseException", .type "object"] true sn sub ab col dd k0 k1 k2 k3 k5 "ValueError.__new__"))
    (ks : PySem.W.ks_superIn K C C "__init__" = some (some (.builtin "ValueError.__init__"))) (iC : PySem.W.findIn K (.ref C) "__init__" = some (some (.ref fI))) (tC : PySem.W.typeIn K (.ref fI) = some (.type "function")) (kC : PySem.W.keepIn K (.ref C) = true)
    (exC : PySem.W.subIn K (.ref C) (.type "BaseException") = some true) (veC : PySem.W.subIn K (.ref C) (.type "ValueError") = some true) (tyC : PySem.W.typeIn K (.ref C) = some (.type "type")) (me : PySem.W.mroIn K C (.ref C) = some true) (sta : PySem.W.nsIn K cStatics "thirdparty.any" = some none)
    (hA : defArgs st = eA p1) (hB : defBody st = eB txt j q1 q2 q3 q4 q5 q6) (hS : defScope st = eS) (hp : (q3.endLine == q5.line) = true)
    (l : K.lookup fI = some ⟨oc, od, .func (PySem.W.ksFn "__init__" qual (defArgs st) (defBody st) (defScope st) .none .none doc pm an (.ref cda) ct cc), osl⟩) (c : PySem.W.codeIn K (.ref cda) qual = true)
    (lc : K.lookup cda = some ⟨ccl, cdd, .fields vs, ccs⟩) (hvs : vs[2]? = some (.str file tf)) (hfile : ((P.main.file : Str) == file) = true) (lx : K.lookup cc = some ⟨cl, cld, .cell (some (.ref C)), csl⟩) (top : (P.main.scope.names.lookup ("super" : Str)).isSome = false)
    (ga : PySem.W.findIn K (.ref C) "__getattribute__" = some (some (.builtin "BaseException.__getattribute__"))) (gg : PySem.W.findIn K (.ref C) "__getattr__" = some none) (hd : PySem.W.hasDictIn K C = true) (hcl : PySem.W.findIn K (.ref C) "__class__" = some (some (.builtin "object.__class__")))
    (hsp : PySem.W.specialIn K (.builtin "object.__class__") "__get__" = some (some (.builtin "getset_descriptor.__get__"))) (htk : PySem.W.takesIn K (.builtin "object.__class__") = some true) (hmo : PySem.W.mroIn K C (.type "object") = some true)
    (kS : PySem.W.kitOne K (.ref C) (.ref S) = some true) (kV : PySem.W.kitOne K (.ref C) (.type "ValueError") = some true) (ne : C ≠ S) : ∃ C S, ErrB P K mg x C S := by
  have hcls : PySem.W.clsIn K C = some { name := x, bases := bs, mro := .ref C :: [.ref S, .type "ValueError", .type "Exception", .type "BaseException", .type "object"], ns := N, qualname := q, hasDict := true, slotNames := sn, subclasses := sub, abstract := ab, collection := col, hasDel := false } := by
    unfold PySem.W.clsIn; rw [xL] <;> rfl
  have hal : PySem.W.alongIn K "__init__" [.ref S, .type "ValueError", .type "Exception", .type "BaseException", .type "object"] = some (some (.builtin "ValueError.__init__")) := by
    unfold PySem.W.ks_superIn at ks
    rw [hcls, Option.bind_some, drop_self] at ks
    exact ks
  rw [hA, hB, hS] at l
  refine ⟨C, S, ⟨fI, ?_⟩, PySem.W.mg_of X G aC, ⟨ga, gg, exC, hd, hcl, hsp, htk, hmo⟩, kS, kV, PySem.W.mg_of X G aS, ⟨_, hcls, rfl, rfl⟩, ne⟩
  exact ⟨⟨x, q, N, bs, _, sn, sub, ab, col, dd, k0, k1, k2, k3, k5, xL, by rfl, hal⟩, iC, tC, kC, exC, veC, tyC, me, sta,
    ⟨oc, od, qual, doc, pm, an, ct, cda, cc, osl, txt, j, p1, q1, q2, q3, q4, q5, q6, l, hp, c, ⟨ccl, cdd, vs, ccs, file, tf, lc, hvs, hfile⟩, cl, cld, csl, lx⟩, top⟩
end
end DL

namespace K71
open PySem L2 DL
/-! ### the rules by the shape of the text -/
local macro_rules | `(tactic| walk_at "dl nm") => `(tactic| first | with_reducible assumption | exact nm_of 0 (by decide +kernel) | exact nm_of 1 (by decide +kernel) | exact nm_of 2 (by decide +kernel) | exact nm_of 3 (by decide +kernel) | exact nm_of 4 (by decide +kernel) | exact nm_of 5 (by decide +kernel) | exact nm_of 6 (by decide +kernel) | exact nm_of 7 (by decide +kernel) | exact nm_of 8 (by decide +kernel) | exact nm_of 9 (by decide +kernel) | exact nm_of 10 (by decide +kernel) | exact nm_of 11 (by decide +kernel) | exact nm_of 12 (by decide +kernel) | exact nm_of 13 (by decide +kernel) | exact nm_of 14 (by decide +kernel) | exact nm_of 15 (by decide +kernel) | exact nm_of 16 (by decide +kernel) | exact nm_of 17 (by decide +kernel) | exact nm_of 18 (by decide +kernel) | exact nm_of 19 (by decide +kernel) | exact nm_of 20 (by decide +kernel))
local macro_rules | `(tactic| walk_at "dl nl") => `(tactic| first | with_reducible assumption | exact nl_of 0 (by decide +kernel) | exact nl_of 1 (by decide +kernel) | exact nl_of 2 (by decide +kernel) | exact nl_of 3 (by decide +kernel) | exact nl_of 4 (by decide +kernel) | exact nl_of 5 (by decide +kernel) | exact nl_of 6 (by decide +kernel) | exact nl_of 7 (by decide +kernel) | exact nl_of 8 (by decide +kernel) | exact nl_of 9 (by decide +kernel) | exact nl_of 10 (by decide +kernel) | exact nl_of 11 (by decide +kernel) | exact nl_of 12 (by decide +kernel) | exact nl_of 13 (by decide +kernel) | exact nl_of 14 (by decide +kernel) | exact nl_of 15 (by decide +kernel) | exact nl_of 16 (by decide +kernel) | exact nl_of 17 (by decide +kernel) | exact nl_of 18 (by decide +kernel) | exact nl_of 19 (by decide +kernel) | exact nl_of 20 (by decide +kernel) | exact nk_of 0 (by decide +kernel) | exact nk_of 1 (by decide +kernel) | exact nk_of 2 (by decide +kernel) | exact nk_of 3 (by decide +kernel) | exact nk_of 4 (by decide +kernel) | exact nk_of 5 (by decide +kernel) | exact nk_of 6 (by decide +kernel) | exact nk_of 7 (by decide +kernel) | exact nk_of 8 (by decide +kernel) | exact nk_of 9 (by decide +kernel) | exact nk_of 10 (by decide +kernel) | exact nk_of 11 (by decide +kernel) | exact nk_of 12 (by decide +kernel) | exact nk_of 13 (by decide +kernel) | exact nk_of 14 (by decide +kernel) | exact nk_of 15 (by decide +kernel) | exact nk_of 16 (by decide +kernel) | exact nk_of 17 (by decide +kernel) | exact nk_of 18 (by decide +kernel) | exact nk_of 19 (by decide +kernel) | exact nk_of 20 (by decide +kernel))
local macro_rules | `(tactic| walk_at "dl ng") => `(tactic| first | with_reducible assumption | exact ng_of (by decide +kernel))
local macro_rules | `(tactic| walk_at "dl gl") => `(tactic| (refine' Ng.gl ?g; (case g => walk_at "dl ng")))
local macro_rules | `(tactic| walk_at "dl nk") => `(tactic| first | with_reducible assumption | exact nk_of_int (by with_reducible assumption) (by decide +kernel))
local macro_rules | `(tactic| walk_at "dl rel") => `(tactic| first | with_reducible exact r_add | with_reducible exact r_sub | with_reducible exact r_lt | with_reducible exact r_le | with_reducible exact r_gt | with_reducible exact r_ge | ((with_reducible refine' r_mod ?h); (case h => first | decide | omega)) | ((with_reducible refine' r_fdiv ?h); (case h => first | exact cdiv_ok (by decide) (by decide) | exact cdiv_ok (by omega) (by omega))) | ((with_reducible refine' r_mul ?h); (case h => first | exact cmul_r (by decide) (by decide) | exact cmul_l (by decide) (by decide) | exact cmul_r (by omega) (by omega) | exact cmul_l (by omega) (by omega))) | ((with_reducible refine' r_pow ?h); (case h => exact cpow_ok (by decide) (by decide) (by decide))) | with_reducible exact r_is | with_reducible exact r_isnot | with_reducible exact r_inT | with_reducible exact r_notinT | (refine' r_eq ?hx ?hy; (try (case hx => rfl)); (try (case hy => rfl))) | (refine' r_ne ?hx ?hy; (try (case hx => rfl)); (try (case hy => rfl))))
local macro_rules | `(tactic| walk_at "dl at") => `(tactic| first | rfl | exact atI_int (by assumption) | exact atI_G (by omega) (by omega))
local macro_rules | `(tactic| walk_at "dl sp") => `(tactic| first | exact ⟨_, rfl, rfl⟩ | exact ⟨_, _, rfl, rfl⟩ | exact ⟨_, _, _, rfl, rfl⟩ | exact ⟨_, _, _, _, rfl, rfl⟩ | exact ⟨_, _, _, _, _, rfl, rfl⟩ | exact ⟨_, _, _, _, _, _, rfl, rfl⟩ | exact ⟨_, _, _, _, _, _, _, rfl, rfl⟩ | exact ⟨_, _, _, _, _, _, _, _, rfl, rfl⟩ | exact ⟨_, _, _, _, _, _, _, _, _, rfl, rfl⟩ | exact ⟨_, rfl, rfl, by omega⟩ | exact ⟨_, _, rfl, rfl, by omega⟩ | exact ⟨_, _, _, rfl, rfl, by omega⟩ | exact ⟨_, _, _, _, rfl, rfl, by omega⟩ | exact ⟨_, _, _, _, _, rfl, rfl, by omega⟩ | exact ⟨_, _, _, _, _, _, rfl, rfl, by omega⟩ | exact ⟨_, _, _, _, _, _, _, rfl, rfl, by omega⟩ | exact ⟨_, _, _, _, _, _, _, _, rfl, rfl, by omega⟩ | exact ⟨_, _, _, _, _, _, _, _, _, rfl, rfl, by omega⟩ | exact ⟨_, rfl, rfl, by omega, by omega⟩ | exact ⟨_, _, rfl, rfl, by omega, by omega⟩ | exact ⟨_, _, _, rfl, rfl, by omega, by omega⟩ | exact ⟨_, _, _, _, rfl, rfl, by omega, by omega⟩ | exact ⟨_, _, _, _, _, rfl, rfl, by omega, by omega⟩ | exact ⟨_, _, _, _, _, _, rfl, rfl, by omega, by omega⟩ | exact ⟨_, _, _, _, _, _, _, rfl, rfl, by omega, by omega⟩ | exact ⟨_, _, _, _, _, _, _, _, rfl, rfl, by omega, by omega⟩ | exact ⟨_, _, _, _, _, _, _, _, _, rfl, rfl, by omega, by omega⟩)
local macro_rules | `(tactic| walk_at "dl sz") => `(tactic| first | decide | (refine small ?_; (try simp (disch := omega) only [cutD_take, cutD_drop, cutD_drop1, List.length_append, List.length_take, List.length_drop, List.length_cons, List.length_nil, List.length_map, List.length_range]); omega))
local macro_rules | `(tactic| walk_at "dl evas") => `(tactic| first | exact eva_nil | ((with_reducible refine' evas_c ?a ?b ?s); (case a => walk_at "dl ev"); (case b => walk_at "dl evas"); (case s => rfl)))
local macro_rules | `(tactic| walk_at "dl evap") => `(tactic| first | exact evap_nil | ((with_reducible refine' evap_c ?a ?b ?s); (case a => walk_at "dl evp"); (case b => walk_at "dl evap"); (case s => rfl)))
local macro_rules | `(tactic| walk_at "dl evu") => `(tactic| first | exact evu_nil | ((with_reducible refine' evu_cons ?a ?b ?s); (case a => walk_at "dl ev"); (case b => walk_at "dl evu"); (case s => rfl)))
local macro_rules | `(tactic| walk_at "dl evo") => `(tactic| first | exact evo'_nil | ((with_reducible refine' evo'_ls ?a ?b ?s); (case a => walk_at "dl ev"); (case b => walk_at "dl evo"); (case s => rfl)) | ((with_reducible refine' evo'_pu ?a ?b ?s); (case a => walk_at "dl ev"); (case b => walk_at "dl evo"); (case s => rfl)))
local macro_rules | `(tactic| walk_at "dl sl") => `(tactic| first | exact evo_none | ((with_reducible refine' evo_some ?a); (case a => walk_at "dl evp")))
local macro_rules | `(tactic| walk_at "dl call") => `(tactic| first
  | ((with_reducible refine' evF ?C ?a ?S ?g ?j ?t); (case C => with_reducible assumption); (case a => walk_at "dl evas"); (case g => walk_at "dl ng"); (case j => decide); (case t => rfl); (try (case S => walk_at "dl sp")))
  | ((with_reducible refine' evFP ?C ?a ?S ?d ?g ?j ?t); (case C => with_reducible assumption); (case a => walk_at "dl evap"); (case g => walk_at "dl ng"); (case j => decide); (case t => rfl); (try (case S => walk_at "dl sp")); (try (case d => rfl))))
local macro_rules | `(tactic| walk_at "dl evl") => `(tactic| first
  | ((with_reducible refine' evlN ?n ?r); (case n => walk_at "dl nm"); (case r => rfl))
  | ((with_reducible refine' evlNp ?n ?r); (case n => walk_at "dl nm"); (case r => rfl))
  | ((with_reducible refine' Ev.ll ?a); (case a => walk_at "dl ev0"))
  | ((with_reducible refine' Ev.lp ?a); (case a => walk_at "dl ev0")))
local macro_rules | `(tactic| walk_at "dl ev0") => `(tactic| first
  | ((with_reducible refine' evN ?n ?r); (case n => walk_at "dl nm"); (case r => rfl))
  | ((with_reducible refine' evFz ?n ?r); (case n => walk_at "dl nm"); (case r => rfl))
  | with_reducible exact ev_int | with_reducible exact ev_bool | with_reducible exact ev_none | with_reducible exact ev_str
  | ((with_reducible refine' evK ?n); (case n => walk_at "dl nk"))
  | ((with_reducible refine' evTup ?a ?z); (case a => walk_at "dl evu"); (case z => first | (walk_at "dl sz") | exact small (by simp)))
  | ((with_reducible refine' evTupO ?a ?z); (case a => walk_at "dl evo"); (case z => first | (walk_at "dl sz") | exact small (by simp)))
  | ((with_reducible refine' evLst ?a ?z); (case a => walk_at "dl evu"); (case z => first | (walk_at "dl sz") | exact small (by simp)))
  | ((with_reducible refine' ev_ixl ?a ?b ?h ?p); (case p => exact fun _ _ => rfl); (case a => walk_at "dl evl"); (case b => walk_at "dl evp"); (case h => walk_at "dl at"))
  | ((with_reducible refine' ev_ixt ?a ?b ?h ?p); (case p => exact fun _ _ => rfl); (case a => walk_at "dl ev"); (case b => walk_at "dl evp"); (case h => walk_at "dl at"))
  | ((with_reducible refine' ev_sll ?a ?l ?h); (case a => walk_at "dl evl"); (case l => walk_at "dl sl"); (case h => walk_at "dl sl"))
  | ((with_reducible refine' ev_slt ?a ?l ?h); (case a => walk_at "dl ev"); (case l => walk_at "dl sl"); (case h => walk_at "dl sl"))
  | ((with_reducible refine' ev_catl ?a ?b ?z); (case a => walk_at "dl evl"); (case b => walk_at "dl evl"); (case z => walk_at "dl sz"))
  | ((with_reducible refine' ev_catt ?a ?b ?z); (case a => walk_at "dl ev"); (case b => walk_at "dl ev"); (case z => walk_at "dl sz"))
  | ((with_reducible refine' evListl ?a ?g ?s); (case a => walk_at "dl evl"); (case g => walk_at "dl ng"); (case s => rfl))
  | ((with_reducible refine' evListt ?a ?g ?s); (case a => walk_at "dl ev"); (case g => walk_at "dl ng"); (case s => rfl))
  | ((with_reducible refine' evTuplel ?a ?g ?s); (case a => walk_at "dl evl"); (case g => walk_at "dl ng"); (case s => rfl))
  | walk_at "dl call")
local macro_rules | `(tactic| walk_at "dl evp") => `(tactic| first
  | ((with_reducible refine' Ev.pp (evN ?n ?r)); (case n => walk_at "dl nm"); (case r => rfl))
  | ((with_reducible refine' evpNl ?n ?r); (case n => walk_at "dl nm"); (case r => rfl))
  | ((with_reducible refine' evpNt ?n ?r); (case n => walk_at "dl nm"); (case r => rfl))
  | with_reducible exact Ev.pp ev_int | with_reducible exact Ev.pp ev_bool | with_reducible exact Ev.pp ev_none | with_reducible exact Ev.pp ev_str
  | ((with_reducible refine' evp_bin ?a ?b ?r); (case a => walk_at "dl evp"); (case b => walk_at "dl evp"); (case r => walk_at "dl rel"))
  | ((with_reducible refine' evC ?a ?b ?r ?m); (case a => walk_at "dl evp"); (case b => walk_at "dl evp"); (case r => walk_at "dl rel"); (case m => first | exact nomark _ | rfl))
  | ((with_reducible refine' evCC ?a ?b ?r ?c ?r2 ?m); (case a => walk_at "dl evp"); (case b => walk_at "dl evp"); (case r => walk_at "dl rel"); (case c => walk_at "dl evp"); (case r2 => walk_at "dl rel"); (case m => rfl))
  | ((with_reducible refine' evp_not ?a); (case a => walk_at "dl evp"))
  | ((with_reducible refine' evp_neg ?a); (case a => walk_at "dl evp"))
  | ((with_reducible refine' evLenl ?a ?g ?s); (case a => walk_at "dl evp"); (case g => walk_at "dl ng"); (case s => rfl))
  | ((with_reducible refine' evLent ?a ?g ?s); (case a => walk_at "dl evp"); (case g => walk_at "dl ng"); (case s => rfl))
  | ((with_reducible refine' evInt ?a ?g ?s); (case a => walk_at "dl evp"); (case g => walk_at "dl ng"); (case s => rfl))
  | ((with_reducible refine' evAbs ?a ?g ?s); (case a => walk_at "dl evp"); (case g => walk_at "dl ng"); (case s => rfl))
  | ((with_reducible refine' evIsInt ?a ?g ?g2 ?s); (case a => walk_at "dl evp"); (case g => walk_at "dl ng"); (case g2 => walk_at "dl ng"); (case s => rfl))
  | ((with_reducible refine' evIsBool ?a ?g ?g2 ?s); (case a => walk_at "dl evp"); (case g => walk_at "dl ng"); (case g2 => walk_at "dl ng"); (case s => rfl))
  | ((with_reducible refine' evIsTup ?a ?g ?g2 ?s); (case a => walk_at "dl evp"); (case g => walk_at "dl ng"); (case g2 => walk_at "dl ng"); (case s => rfl))
  | ((with_reducible refine' Ev.pp ?a); (case a => walk_at "dl ev0"))
  | ((with_reducible refine' EvL.p ?a); (case a => walk_at "dl evl"))
  | ((with_reducible refine' Ev.p ?a); (case a => walk_at "dl ev0")))
local macro_rules | `(tactic| walk_at "dl ev") => `(tactic| first
  | walk_at "dl ev0"
  | ((with_reducible refine' EvP.i ?p ?i); (case p => walk_at "dl evp"); (case i => rfl))
  | ((with_reducible refine' Ev.fz ?a); (case a => walk_at "dl ev0")))
local macro_rules | `(tactic| walk_at "dl evt") => `(tactic| first
  | ((with_reducible refine' evtC ?a ?b ?r ?m); (case a => walk_at "dl evp"); (case b => walk_at "dl evp"); (case r => walk_at "dl rel"); (case m => first | exact nomark _ | rfl))
  | ((with_reducible refine' evtCC ?a ?b ?r ?c ?r2 ?m); (case a => walk_at "dl evp"); (case b => walk_at "dl evp"); (case r => walk_at "dl rel"); (case c => walk_at "dl evp"); (case r2 => walk_at "dl rel"); (case m => rfl))
  | ((with_reducible refine' evt_not ?a); (case a => walk_at "dl evt"))
  | ((with_reducible refine' EvP.t ?a ?h); (case a => walk_at "dl evp"); (case h => intro _; rfl)))
local macro_rules | `(tactic| walk_at "dl set") => `(tactic| (refine' svbSet ?l ?e ?k ?i; (case l => walk_at "dl nl"); (case e => walk_at "dl ev"); (case i => simp); (try dsimp only [List.set])))
local macro_rules | `(tactic| walk_at "dl ret") => `(tactic| (refine' svb_ret ?e ?o; (case e => walk_at "dl ev")))
local macro_rules | `(tactic| walk_at "dl if") => `(tactic| (refine' svb_if ?c ?t ?f; (case c => walk_at "dl evt")))
local macro_rules | `(tactic| walk_at "dl tgs") => `(tactic| first | exact tgs_nil | (refine' tgs_cons ?a ?b; (case a => walk_at "dl tg"); (case b => walk_at "dl tgs")))
local macro_rules | `(tactic| walk_at "dl tg") => `(tactic| first | (refine' tgN ?l ?h; (case l => walk_at "dl nl"); (case h => first | (simp; done) | (simp [wipeR]; done) | decide)) | (refine' tg_t ?a; (case a => walk_at "dl tgs")))
local macro_rules | `(tactic| walk_at "dl asg") => `(tactic| (refine' svb_asg ?e ?t ?k; (case e => walk_at "dl ev"); (case t => walk_at "dl tg"); (try dsimp only [List.set])))
local macro_rules | `(tactic| walk_at "dl ex") => `(tactic| first
  | ((with_reducible refine' exF ?C ?a ?S ?g ?j ?t); (case C => with_reducible assumption); (case a => walk_at "dl evas"); (case g => walk_at "dl ng"); (case j => decide); (case t => rfl))
  | ((with_reducible refine' exFP ?C ?a ?S ?g ?j ?t); (case C => with_reducible assumption); (case a => walk_at "dl evap"); (case g => walk_at "dl ng"); (case j => decide); (case t => rfl)))
local macro_rules | `(tactic| walk_at "dl lci") => `(tactic| (refine' lci ?ht ?he ?hj; (case ht => (intro s H C cl fp; walk_at "dl tg")); (case he => (intro s H C cl fp; walk_at "dl ev")); (case hj => decide)))
local macro_rules | `(tactic| walk_at "dl evm") => `(tactic| first
  | exact evm_nil
  | ((with_reducible refine' evm_mv ?n ?r ?b); (case n => walk_at "dl nm"); (case r => rfl); (case b => ((try dsimp only [List.set]); walk_at "dl evm")))
  | ((with_reducible refine' evm_ls ?a ?b ?s); (case a => walk_at "dl ev0"); (case b => walk_at "dl evm"); (case s => rfl))
  | ((with_reducible refine' evm_pu ?a ?b ?s); (case a => walk_at "dl ev"); (case b => walk_at "dl evm"); (case s => rfl)))
local macro_rules | `(tactic| walk_at "dl retm") => `(tactic| (refine' svbRetM ?e ?o ?z; (case e => walk_at "dl evm"); (case z => first | (walk_at "dl sz") | exact small (by simp))))
local macro_rules | `(tactic| walk_at "dl lci1") => `(tactic| (refine' lci1 ?ht ?hc ?he ?hj; (case ht => (intro s H C cl fp; walk_at "dl tg")); (case hc => (intro s H C cl fp; walk_at "dl evt")); (case he => (intro hq s H C cl fp; walk_at "dl ev")); (case hj => decide)))
local macro_rules | `(tactic| walk_at "dl app") => `(tactic| (refine' svbApp ?l ?r ?e ?z ?k ?s; (case l => walk_at "dl nm"); (case r => rfl); (case e => walk_at "dl ev"); (case s => rfl); (case z => (walk_at "dl szl")); (try dsimp only [List.set])))
local macro_rules | `(tactic| walk_at "dl szl") => `(tactic| (refine Nat.lt_of_le_of_lt (m := 100000) ?_ (by decide); (try simp only [List.length_map, List.length_append, List.length_cons, List.length_nil, List.length_take, List.length_drop]); omega))
local macro_rules | `(tactic| walk_at "dl evi") => `(tactic| first | ((with_reducible refine' eviFz ?n ?r); (case n => walk_at "dl nm"); (case r => rfl)) | ((with_reducible refine' evi_l ?a); (case a => walk_at "dl ev0")) | ((with_reducible refine' evi_t ?a); (case a => walk_at "dl ev0")))
local macro_rules | `(tactic| walk_at "dl par") => `(tactic| intros; trivial)
def top (i : Nat) : Stmt := PySem.Challenge.pw_skypasses_k71_looks_put_in_and_out.main.body.getD i (.Pass ⟨0, 0, 0, 0⟩)
section
variable {P : Program} {w : World} {K : PySem.W.Frag} {mg : Str → Option Value} {base : Heap}
/-! is_within -/
def within (d : D) (lo hi : Int) : Bool := isInt d && (!isBool d && (match d with | .int i => decide (lo ≤ i) && decide (i ≤ hi) | _ => false))
def S_is_within : List RV → Ans → Prop := fun args a => ∃ d lo hi, args = [.pu d, .pu (.int lo), .pu (.int hi)] ∧ a = .ok (.pu (.bool (within d lo hi)))
theorem sc_is_within : FnScope ["value", "low", "high"] ["value", "low", "high"] (defScope (top 11)) := ⟨rfl, rfl, rfl, by decide +kernel, rfl, by decide +kernel, by decide +kernel⟩
theorem ok_is_within {f : Addr} {fd : FuncData} (F : Fun K "is_within" "is_within" (top 11) f fd) (hm : mg "is_within" = some (.ref f)) (hp : ∀ x, x ∈ bnames → mg x = none) : Callee P w K mg base 1 "is_within" ["value", "low", "high"] S_is_within := by
  refine callee_by F hm hp sc_is_within (fun _ _ _ _ _ _ us hl => match us, hl with | [_, _, _], _ => rfl) (fun args a h => ?_) (fun X _ _ _ _ _ _ args a h => ?_)
  · obtain ⟨d, lo, hi, rfl, _⟩ := h; rfl
  · obtain ⟨d, lo, hi, rfl, rfl⟩ := h
    show Svb _ [some (.pu d), some (.pu (.int lo)), some (.pu (.int hi))] _ _
    refine' svb_ret (r := .pu (.bool (within d lo hi))) (EvP.i (evp_and2 (t := isInt d) ?a fun h1 => evp_and2 (t := !isBool d) ?b fun h2 => evp_one ?c) rfl) rfl
    case a => walk_at "dl evp"
    case b => walk_at "dl evp"
    case c =>
      cases d with
      | int i => walk_at "dl evp"
      | bool b => simp [isBool] at h2
      | _ => simp [isInt] at h1

inductive Wd | size | number | wish | time
def ansOf (E : Wd → Addr) : Option Wd → Ans
  | none => .ok (.pu .none)
  | some w => .er (E w)
def nameW : Wd → Str
  | .size => "BadSize"
  | .number => "BadNumber"
  | .wish => "BadWish"
  | .time => "BadTime"
structure Errs (P : Program) (K : PySem.W.Frag) (mg : Str → Option Value) (E : Wd → Addr) : Prop where
  at_ : ∀ w, ∃ fI, ErrT P K (E w) fI
  mg_ : ∀ w, mg (nameW w) = some (.ref (E w))
theorem svbErr {X : Cx} {k : Nat} [Cok (k + 1) X] [Is X P w K mg base] [Plain X] {E : Wd → Addr} (T : Errs P K mg E) (u : Wd) {ρ : List (Option RV)} {O : Out → Prop} {sts : List Stmt} {bs : List (List Stmt)} {x : Str} {p pos pos' : Pos} (hx : x = nameW u) (g : Ng X x) (h : O (.ex ρ (E u))) :
    Svb X ρ ((.Raise (some (.Call (.Name x p) [] [] pos)) none pos' :: sts) :: bs) O := by
  obtain ⟨fI, hT⟩ := T.at_ u
  exact svbRaise hT (by rw [hx]; exact T.mg_ u) g h
/-- whole numbers as data -/
def intD : D → Int
  | .int i => i
  | _ => 0
theorem within_int {d : D} {lo hi : Int} (h : within d lo hi = true) : ∃ i, d = .int i ∧ lo ≤ i ∧ i ≤ hi := by
  cases d with
  | int i => exact ⟨i, rfl, by simpa [within, isInt, isBool] using h⟩
  | bool b => simp [within, isInt, isBool] at h
  | _ => simp [within, isInt] at h
theorem within_i {i lo hi : Int} : within (.int i) lo hi = (decide (lo ≤ i) && decide (i ≤ hi)) := by simp [within, isInt, isBool]
/-! check_look -/
def chkLook (w st ln an sz : D) (many since : Int) : Option Wd :=
  if within w 0 (many - 1) = false then some .wish
  else if within st 0 200 = false ∨ within ln 1 20 = false ∨ intD st < since then some .time
  else if within an (-90) 90 = false ∨ within sz 1 30 = false then some .number
  else none
def S_check_look (E : Wd → Addr) : List RV → Ans → Prop := fun args a => ∃ w st ln an sz many since, args = [.pu (.tuple [w, st, ln, an, sz]), .pu (.int many), .pu (.int since)] ∧ a = ansOf E (chkLook w st ln an sz many since)
theorem sc_check_look : FnScope ["look", "many", "since", "wish", "start", "length", "angle", "size"] ["look", "many", "since"] (defScope (top 12)) := ⟨rfl, rfl, rfl, by decide +kernel, rfl, by decide +kernel, by decide +kernel⟩
theorem ok_check_look {f : Addr} {fd : FuncData} {E : Wd → Addr} (F : Fun K "check_look" "check_look" (top 12) f fd) (hm : mg "check_look" = some (.ref f)) (hp : ∀ x, x ∈ bnames → mg x = none) (T : Errs P K mg E)
    (C1 : Callee P w K mg base 1 "is_within" ["value", "low", "high"] S_is_within) (hL : ∃ t, mg "LAST" = some (.int 200 t)) : Callee P w K mg base 3 "check_look" ["look", "many", "since"] (S_check_look E) := by
  refine callee_by F hm hp sc_check_look (fun _ _ _ _ _ _ us hl => match us, hl with | [_, _, _], _ => rfl) (fun args a h => ?_) (fun X _ _ _ _ _ _ args a h => ?_)
  · obtain ⟨_, _, _, _, _, _, _, rfl, _⟩ := h; rfl
  · obtain ⟨w, st, ln, an, sz, many, since, rfl, rfl⟩ := h
    show Svb _ [some (.pu (.tuple [w, st, ln, an, sz])), some (.pu (.int many)), some (.pu (.int since)), none, none, none, none, none] _ _
    walk_at "dl asg"
    walk_at "dl if"
    case t =>
      intro h
      refine svbErr T .wish rfl (by walk_at "dl ng") ?_
      simp only [Bool.not_eq_true'] at h
      simp [Ends1, chkLook, h, ansOf]
    case f =>
      intro h1
      refine svb_nil ?_
      simp only [Bool.not_eq_false'] at h1
      refine svb_if (t := !within st 0 200 || (!within ln 1 20 || decide (intD st < since))) (EvW.t (evw_or ?a fun h => evw_or ?b fun h2 => evw_or1 ?c)) ?t ?f
      case a => walk_at "dl evt"
      case b => walk_at "dl evt"
      case c =>
        simp only [Bool.not_eq_false'] at h
        obtain ⟨i, rfl, _⟩ := within_int h
        show EvT _ _ _ (decide (i < since))
        walk_at "dl evt"
      case t =>
        intro h2
        refine svbErr T .time rfl (by walk_at "dl ng") ?_
        simp only [Bool.or_eq_true, Bool.not_eq_true', decide_eq_true_eq] at h2
        simp [Ends1, chkLook, h1, h2, ansOf]
      case f =>
        intro h2
        refine svb_nil ?_
        simp only [Bool.or_eq_false_iff, Bool.not_eq_false', decide_eq_false_iff_not] at h2
        refine svb_if (t := !within an (-90) 90 || !within sz 1 30) (EvW.t (evw_or ?a fun h => evw_or1 ?b)) ?t ?f
        case a => walk_at "dl evt"
        case b => walk_at "dl evt"
        case t =>
          intro h3
          refine svbErr T .number rfl (by walk_at "dl ng") ?_
          simp only [Bool.or_eq_true, Bool.not_eq_true'] at h3
          simp [Ends1, chkLook, h1, h2, h3, ansOf]
        case f =>
          intro h3
          refine svb_nil (svb_nil (svb_end ?_))
          simp only [Bool.or_eq_false_iff, Bool.not_eq_false'] at h3
          simp [Ends1, chkLook, h1, h2, h3, ansOf]

/-! check_ear -/
def chkEar (f l r since : Int) : Option Wd :=
  if ¬ (since ≤ f ∧ f ≤ 200) ∨ ¬ (f + 1 ≤ l ∧ l ≤ 200) then some .time
  else if ¬ (1 ≤ r ∧ r ≤ 30) then some .number
  else none
def S_check_ear (E : Wd → Addr) : List RV → Ans → Prop := fun args a => ∃ f l r since, args = [.pu (.tuple [.int f, .int l, .int r]), .pu (.int since)] ∧ a = ansOf E (chkEar f l r since)
theorem sc_check_ear : FnScope ["ear", "since", "first", "last", "rate"] ["ear", "since"] (defScope (top 13)) := ⟨rfl, rfl, rfl, by decide +kernel, rfl, by decide +kernel, by decide +kernel⟩
theorem ok_check_ear {f : Addr} {fd : FuncData} {E : Wd → Addr} (F : Fun K "check_ear" "check_ear" (top 13) f fd) (hm : mg "check_ear" = some (.ref f)) (hp : ∀ x, x ∈ bnames → mg x = none) (T : Errs P K mg E)
    (C1 : Callee P w K mg base 1 "is_within" ["value", "low", "high"] S_is_within) (hL : ∃ t, mg "LAST" = some (.int 200 t)) : Callee P w K mg base 3 "check_ear" ["ear", "since"] (S_check_ear E) := by
  refine callee_by F hm hp sc_check_ear (fun _ _ _ _ _ _ us hl => match us, hl with | [_, _], _ => rfl) (fun args a h => ?_) (fun X _ _ _ _ _ _ args a h => ?_)
  · obtain ⟨_, _, _, _, rfl, _⟩ := h; rfl
  · obtain ⟨f, l, r, since, rfl, rfl⟩ := h
    show Svb _ [some (.pu (.tuple [.int f, .int l, .int r])), some (.pu (.int since)), none, none, none] _ _
    walk_at "dl asg"
    refine svb_if (EvW.t (evw_or (t := !within (.int f) since 200) (t' := !within (.int l) (f + 1) 200) ?a fun h => evw_or1 ?b)) ?t ?f
    case a => walk_at "dl evt"
    case b => walk_at "dl evt"
    case t =>
      intro h
      refine svbErr T .time rfl (by walk_at "dl ng") ?_
      simp only [within_i, Bool.or_eq_true, Bool.not_eq_true', Bool.and_eq_false_iff, decide_eq_false_iff_not] at h
      have h' : ¬ (since ≤ f ∧ f ≤ 200) ∨ ¬ (f + 1 ≤ l ∧ l ≤ 200) := by omega
      simp only [Ends1, chkEar, if_pos h', ansOf]
    case f =>
      intro h1
      refine svb_nil ?_
      simp only [within_i, Bool.or_eq_false_iff, Bool.not_eq_false', Bool.and_eq_true, decide_eq_true_eq] at h1
      have h1' : ¬ (¬ (since ≤ f ∧ f ≤ 200) ∨ ¬ (f + 1 ≤ l ∧ l ≤ 200)) := by omega
      refine svb_if (t := !within (.int r) 1 30) ?c ?t ?f
      case c => walk_at "dl evt"
      case t =>
        intro h2
        refine svbErr T .number rfl (by walk_at "dl ng") ?_
        simp only [within_i, Bool.not_eq_true', Bool.and_eq_false_iff, decide_eq_false_iff_not] at h2
        have h2' : ¬ (1 ≤ r ∧ r ≤ 30) := by omega
        simp only [Ends1, chkEar, if_neg h1', if_pos h2', ansOf]
      case f =>
        intro h2
        refine svb_nil (svb_nil (svb_end ?_))
        simp only [within_i, Bool.not_eq_false', Bool.and_eq_true, decide_eq_true_eq] at h2
        have h2' : ¬ ¬ (1 ≤ r ∧ r ≤ 30) := by omega
        simp only [Ends1, chkEar, if_neg h1', if_neg h2', ansOf]
end
section
variable {P : Program} {w : World} {K : PySem.W.Frag} {mg : Str → Option Value} {base : Heap}
/-! check_sky -/
abbrev Lk := D × D × D × D × D
def encL (l : Lk) : D := .tuple [l.1, l.2.1, l.2.2.1, l.2.2.2.1, l.2.2.2.2]
abbrev Er := Int × Int × Int
def encE (e : Er) : D := .tuple [.int e.1, .int e.2.1, .int e.2.2]
def skyD (looks : List Lk) (worths : List D) (ears : List Er) (cap turn : D) : D := .tuple [.list (looks.map encL), .list worths, .list (ears.map encE), cap, turn]
def chkLooks (many : Int) : Int → List Lk → Option Wd
  | _, [] => none
  | s, l :: r => match chkLook l.1 l.2.1 l.2.2.1 l.2.2.2.1 l.2.2.2.2 many s with
    | some e => some e
    | none => chkLooks many (intD l.2.1) r
def chkEars : Int → List Er → Option Wd
  | _, [] => none
  | s, l :: r => match chkEar l.1 l.2.1 l.2.2 s with
    | some e => some e
    | none => chkEars l.2.1 r
def chkSky (looks : List Lk) (worths : List D) (ears : List Er) (cap turn : D) : Option Wd :=
  if ¬ (1 ≤ worths.length ∧ worths.length ≤ 6) then some .size
  else if (worths.all fun d => within d 0 99) = false then some .number
  else if 16 < looks.length then some .size
  else match chkLooks worths.length 0 looks with
    | some e => some e
    | none => if 4 < ears.length then some .size
      else match chkEars 0 ears with
        | some e => some e
        | none => if within cap 1 30 = false ∨ within turn 1 90 = false then some .number else none
def S_check_sky (E : Wd → Addr) : List RV → Ans → Prop := fun args a => ∃ looks worths ears cap turn, args = [.pu (skyD looks worths ears cap turn)] ∧ a = ansOf E (chkSky looks worths ears cap turn)
theorem sc_check_sky : FnScope ["sky", "looks", "worths", "ears", "capacity", "turn", "since", "look", "ear", "worth"] ["sky"] (defScope (top 14)) := ⟨rfl, rfl, rfl, by decide +kernel, rfl, by decide +kernel, by decide +kernel⟩
theorem ok_check_sky {f : Addr} {fd : FuncData} {E : Wd → Addr} (F : Fun K "check_sky" "check_sky" (top 14) f fd) (hm : mg "check_sky" = some (.ref f)) (hp : ∀ x, x ∈ bnames → mg x = none) (T : Errs P K mg E)
    (C1 : Callee P w K mg base 1 "is_within" ["value", "low", "high"] S_is_within) (C2 : Callee P w K mg base 3 "check_look" ["look", "many", "since"] (S_check_look E)) (C3 : Callee P w K mg base 3 "check_ear" ["ear", "since"] (S_check_ear E))
    (h1 : ∃ t, mg "MOST_LOOKS" = some (.int 16 t)) (h2 : ∃ t, mg "MOST_WISHES" = some (.int 6 t)) (h3 : ∃ t, mg "MOST_EARS" = some (.int 4 t)) : Callee P w K mg base 4 "check_sky" ["sky"] (S_check_sky E) := by
  refine callee_by F hm hp sc_check_sky (fun _ _ _ _ _ _ us hl => match us, hl with | [_], _ => rfl) (fun args a h => ?_) (fun X _ _ _ _ _ _ args a h => ?_)
  · obtain ⟨_, _, _, _, _, rfl, _⟩ := h; rfl
  · obtain ⟨looks, worths, ears, cap, turn, rfl, rfl⟩ := h
    show Svb _ [some (.pu (.tuple [.list (looks.map encL), .list worths, .list (ears.map encE), cap, turn])), none, none, none, none, none, none, none, none, none] _ _
    walk_at "dl asg"
    refine svb_if (t := !(decide (1 ≤ (worths.length : Int)) && decide ((worths.length : Int) ≤ 6))) (by walk_at "dl evt") (fun h => ?_) (fun ha => svb_nil ?_)
    · refine svbErr T .size rfl (by walk_at "dl ng") ?_
      simp only [Bool.not_eq_true', Bool.and_eq_false_iff, decide_eq_false_iff_not] at h
      have h' : ¬ (1 ≤ worths.length ∧ worths.length ≤ 6) := by omega
      simp only [Ends1, chkSky, if_pos h', ansOf]
    simp only [Bool.not_eq_false', Bool.and_eq_true, decide_eq_true_eq] at ha
    have ha' : ¬ ¬ (1 ≤ worths.length ∧ worths.length ≤ 6) := by omega
    refine svb_if (t := !(worths.all fun d => within d 0 99)) ?_ (fun h => ?_) (fun hb => svb_nil ?_)
    · refine evt_not (EvP.t ((evAll (ns := worths.map fun d => within d 0 99) (EvP.is (Ev.p (evLc [("worth", 9)] (fun d => some (.bool (within d 0 99))) (by walk_at "dl evi") (by decide +kernel) (fun d hd => ?_) ?_ fun _ => rfl)) ?_) (by walk_at "dl ng") rfl).is ?_))
      · walk_at "dl lci"
      · exact small (by omega)
      · simp only [RV.flat, fm_some, List.map_map]; rfl
      · simp [List.all_map, Function.comp_def]
    · refine svbErr T .number rfl (by walk_at "dl ng") ?_
      have h' : (worths.all fun d => within d 0 99) = false := by simpa only [Bool.not_eq_true'] using h
      simp only [Ends1, chkSky, if_neg ha', if_pos h', ansOf]
    have hb' : ¬ (worths.all fun d => within d 0 99) = false := by simpa only [Bool.not_eq_false', Bool.not_eq_false] using hb
    refine svb_if (t := decide (16 < ((looks.map encL).length : Int))) (by walk_at "dl evt") (fun h => ?_) (fun hc => svb_nil ?_)
    · refine svbErr T .size rfl (by walk_at "dl ng") ?_
      simp only [decide_eq_true_eq, List.length_map] at h
      have h' : 16 < looks.length := by omega
      simp only [Ends1, chkSky, if_neg ha', if_neg hb', if_pos h', ansOf]
    simp only [decide_eq_false_iff_not, List.length_map] at hc
    have hc' : ¬ 16 < looks.length := by omega
    walk_at "dl set"
    -- the looks
    refine svb_for (fun i ρ => ∃ s v, ρ = [some (.pu (.tuple [.list (looks.map encL), .list worths, .list (ears.map encE), cap, turn])), some (.pu (.list (looks.map encL))), some (.pu (.list worths)), some (.pu (.list (ears.map encE))), some (.pu cap), some (.pu turn), some (.pu (.int s)), v, none, none] ∧
      chkLooks worths.length s (looks.drop i) = chkLooks worths.length 0 looks) (fun _ => False) (by walk_at "dl evi") ⟨0, none, rfl, rfl⟩ ?_ ?_ (fun _ => rfl)
    · rintro i d ρ1 hi ⟨s, v, rfl, hs⟩
      rw [List.getElem?_map] at hi
      obtain ⟨l, hl, rfl⟩ := Option.map_eq_some_iff.mp hi
      obtain ⟨hlt, rfl⟩ := List.getElem?_eq_some_iff.mp hl
      rw [List.drop_eq_getElem_cons hlt] at hs
      refine ⟨_, _, by walk_at "dl tg", ?_⟩
      dsimp only [List.set]
      cases hq : chkLook looks[i].1 looks[i].2.1 looks[i].2.2.1 looks[i].2.2.2.1 looks[i].2.2.2.2 worths.length s with
      | some e =>
        refine svb_exprX (C := E e) ?_ ?_ rfl
        · walk_at "dl ex"
          exact ⟨_, _, _, _, _, _, _, rfl, by rw [hq]; rfl⟩
        · simp only [chkLooks, hq] at hs
          show ansOf E (chkSky looks worths ears cap turn) = .er (E e)
          simp only [chkSky, if_neg ha', if_neg hb', if_neg hc', ← hs]
          rfl
      | none =>
        refine svb_expr (r := .pu .none) ?_ ?_ rfl
        · walk_at "dl ev"
          exact ⟨_, _, _, _, _, _, _, rfl, by rw [hq]; rfl⟩
        · have hin : within looks[i].2.1 0 200 = true := by
            cases hw : within looks[i].2.1 0 200 with
            | true => rfl
            | false => simp only [chkLook, hw] at hq; split at hq <;> simp at hq
          obtain ⟨n, hn, _⟩ := within_int hin
          refine svbSet (r := .pu (.int n)) (by walk_at "dl nl") ?_ ?_ (by simp) rfl
          · refine ev_ixt (i := 1) (ds := [looks[i].1, looks[i].2.1, looks[i].2.2.1, looks[i].2.2.2.1, looks[i].2.2.2.2]) (by walk_at "dl ev") (by walk_at "dl evp") ?_
            rw [← hn]; rfl
          · dsimp only [List.set]
            refine svb_nil (svb_end ⟨n, _, rfl, ?_⟩)
            simp only [chkLooks, hq] at hs
            rw [hn] at hs
            exact hs
    · rintro ρ' (⟨s, v, rfl, hs⟩ | h)
      case inr => exact h.elim
      have hl : chkLooks worths.length 0 looks = none := by
        rw [← hs, List.drop_of_length_le (by simp)]
        rfl
      refine svb_if (t := decide (4 < ((ears.map encE).length : Int))) (by walk_at "dl evt") (fun h => ?_) (fun hd => svb_nil ?_)
      · refine svbErr T .size rfl (by walk_at "dl ng") ?_
        simp only [decide_eq_true_eq, List.length_map] at h
        have h' : 4 < ears.length := by omega
        simp only [Ends1, chkSky, if_neg ha', if_neg hb', if_neg hc', hl, if_pos h', ansOf]
      simp only [decide_eq_false_iff_not, List.length_map] at hd
      have hd' : ¬ 4 < ears.length := by omega
      walk_at "dl set"
      refine svb_for (fun i ρ => ∃ s u, ρ = [some (.pu (.tuple [.list (looks.map encL), .list worths, .list (ears.map encE), cap, turn])), some (.pu (.list (looks.map encL))), some (.pu (.list worths)), some (.pu (.list (ears.map encE))), some (.pu cap), some (.pu turn), some (.pu (.int s)), v, u, none] ∧
        chkEars s (ears.drop i) = chkEars 0 ears) (fun _ => False) (by walk_at "dl evi") ⟨0, none, rfl, rfl⟩ ?_ ?_ (fun _ => rfl)
      · rintro i d ρ1 hi ⟨s, u, rfl, hs⟩
        rw [List.getElem?_map] at hi
        obtain ⟨l, hl', rfl⟩ := Option.map_eq_some_iff.mp hi
        obtain ⟨hlt, rfl⟩ := List.getElem?_eq_some_iff.mp hl'
        rw [List.drop_eq_getElem_cons hlt] at hs
        refine ⟨_, _, by walk_at "dl tg", ?_⟩
        dsimp only [List.set]
        cases hq : chkEar ears[i].1 ears[i].2.1 ears[i].2.2 s with
        | some e =>
          refine svb_exprX (C := E e) ?_ ?_ rfl
          · walk_at "dl ex"
            exact ⟨_, _, _, _, rfl, by rw [hq]; rfl⟩
          · simp only [chkEars, hq] at hs
            show ansOf E (chkSky looks worths ears cap turn) = .er (E e)
            simp only [chkSky, if_neg ha', if_neg hb', if_neg hc', hl, if_neg hd', ← hs]
            rfl
        | none =>
          refine svb_expr (r := .pu .none) ?_ ?_ rfl
          · walk_at "dl ev"
            exact ⟨_, _, _, _, rfl, by rw [hq]; rfl⟩
          · refine svbSet (r := .pu (.int ears[i].2.1)) (by walk_at "dl nl") ?_ ?_ (by simp) rfl
            · refine ev_ixt (i := 1) (ds := [.int ears[i].1, .int ears[i].2.1, .int ears[i].2.2]) (by walk_at "dl ev") (by walk_at "dl evp") rfl
            · dsimp only [List.set]
              refine svb_nil (svb_end ⟨ears[i].2.1, _, rfl, ?_⟩)
              simp only [chkEars, hq] at hs
              exact hs
      · rintro ρ' (⟨s, u, rfl, hs⟩ | h)
        case inr => exact h.elim
        have hE : chkEars 0 ears = none := by
          rw [← hs, List.drop_of_length_le (by simp)]
          rfl
        refine svb_if (t := !within cap 1 30 || !within turn 1 90) (EvW.t (evw_or ?_ fun h => evw_or1 ?_)) (fun h => ?_) (fun h => svb_nil (svb_nil (svb_end ?_)))
        · walk_at "dl evt"
        · walk_at "dl evt"
        · refine svbErr T .number rfl (by walk_at "dl ng") ?_
          have h' : within cap 1 30 = false ∨ within turn 1 90 = false := by simpa only [Bool.or_eq_true, Bool.not_eq_true'] using h
          simp only [Ends1, chkSky, if_neg ha', if_neg hb', if_neg hc', hl, if_neg hd', hE, if_pos h', ansOf]
        · have h' : ¬ (within cap 1 30 = false ∨ within turn 1 90 = false) := by
            intro z
            simp only [Bool.or_eq_false_iff, Bool.not_eq_false'] at h
            rcases z with z | z <;> simp [z] at h
          simp only [Ends1, chkSky, if_neg ha', if_neg hb', if_neg hc', hl, if_neg hd', hE, if_neg h', ansOf]
end
section
variable {P : Program} {w : World} {K : PySem.W.Frag} {mg : Str → Option Value} {base : Heap}
/-! with_looks, without_look -/
def S_with_looks : List RV → Ans → Prop := fun args a => ∃ x ws es cap turn ls, args = [.pu (.tuple [x, .list ws, .list es, cap, turn]), .ls ls] ∧ a = .ok (.tp [.ls ls, .ls ws, .ls es, .pu cap, .pu turn])
theorem sc_with_looks : FnScope ["sky", "looks", "_", "worths", "ears", "capacity", "turn"] ["sky", "looks"] (defScope (top 16)) := ⟨rfl, rfl, rfl, by decide +kernel, rfl, by decide +kernel, by decide +kernel⟩
theorem ok_with_looks {f : Addr} {fd : FuncData} (F : Fun K "with_looks" "with_looks" (top 16) f fd) (hm : mg "with_looks" = some (.ref f)) (hp : ∀ x, x ∈ bnames → mg x = none) : Callee P w K mg base 1 "with_looks" ["sky", "looks"] S_with_looks := by
  refine callee_by F hm hp sc_with_looks (fun _ _ _ _ _ _ us hl => match us, hl with | [_, _], _ => rfl) (fun args a h => ?_) (fun X _ _ _ _ _ _ args a h => ?_)
  · obtain ⟨_, _, _, _, _, _, rfl, _⟩ := h; rfl
  · obtain ⟨x, ws, es, cap, turn, ls, rfl, rfl⟩ := h
    show Svb _ [some (.pu (.tuple [x, .list ws, .list es, cap, turn])), some (.ls ls), none, none, none, none, none] _ _
    walk_at "dl asg"
    walk_at "dl retm"
    exact rfl
def S_without_look : List RV → Ans → Prop := fun args a => ∃ ls ws es cap turn, ∃ n : Nat, args = [.pu (.tuple [.list ls, .list ws, .list es, cap, turn]), .pu (.int n)] ∧ a = .ok (.tp [.ls (ls.take n ++ ls.drop (n + 1)), .ls ws, .ls es, .pu cap, .pu turn]) ∧ n < ls.length ∧ ls.length ≤ 1000
theorem sc_without_look : FnScope ["sky", "look"] ["sky", "look"] (defScope (top 17)) := ⟨rfl, rfl, rfl, by decide +kernel, rfl, by decide +kernel, by decide +kernel⟩
theorem ok_without_look {f : Addr} {fd : FuncData} (F : Fun K "without_look" "without_look" (top 17) f fd) (hm : mg "without_look" = some (.ref f)) (hp : ∀ x, x ∈ bnames → mg x = none) (C1 : Callee P w K mg base 1 "with_looks" ["sky", "looks"] S_with_looks) : Callee P w K mg base 2 "without_look" ["sky", "look"] S_without_look := by
  refine callee_by F hm hp sc_without_look (fun _ _ _ _ _ _ us hl => match us, hl with | [_, _], _ => rfl) (fun args a h => ?_) (fun X _ _ _ _ _ _ args a h => ?_)
  · obtain ⟨_, _, _, _, _, _, rfl, _⟩ := h; rfl
  · obtain ⟨ls, ws, es, cap, turn, n, rfl, rfl, hn, hl⟩ := h
    show Svb _ [some (.pu (.tuple [.list ls, .list ws, .list es, cap, turn])), some (.pu (.int n))] _ _
    refine svb_ret (r := .tp [.ls (ls.take n ++ ls.drop (n + 1)), .ls ws, .ls es, .pu cap, .pu turn]) ?_ rfl
    rw [← cutD_take (xs := ls) (n := n) (by omega), ← cutD_drop1 (xs := ls) (n := n) (by omega)]
    walk_at "dl ev"
end
section
variable {P : Program} {w : World} {K : PySem.W.Frag} {mg : Str → Option Value} {base : Heap}
abbrev LkI := Int × Int × Int × Int × Int
def liftL (l : LkI) : Lk := (.int l.1, .int l.2.1, .int l.2.2.1, .int l.2.2.2.1, .int l.2.2.2.2)
def encI (l : LkI) : D := .tuple [.int l.1, .int l.2.1, .int l.2.2.1, .int l.2.2.2.1, .int l.2.2.2.2]
theorem encI_eq (l : LkI) : encI l = encL (liftL l) := rfl
def atOf (ls : List LkI) : D → Nat
  | .int s => (ls.filter fun l => decide (l.2.1 ≤ s)).length
  | _ => ls.length
theorem atOf_le (ls : List LkI) (d : D) : atOf ls d ≤ ls.length := by
  unfold atOf
  split
  · exact List.length_filter_le _ _
  · exact Nat.le_refl _
def putIn (ls : List LkI) (look : Lk) : List Lk := (ls.take (atOf ls look.2.1)).map liftL ++ [look] ++ (ls.drop (atOf ls look.2.1)).map liftL
def skyI (ls : List LkI) (ws : List D) (es : List Er) (cap turn : D) : D := .tuple [.list (ls.map encI), .list ws, .list (es.map encE), cap, turn]
/-! with_look -/
def S_with_look (E : Wd → Addr) : List RV → Ans → Prop := fun args a => ∃ (ls : List LkI) (look : Lk), ∃ ws es cap turn, args = [.pu (skyI ls ws es cap turn), .pu (encL look)] ∧
  a = (match chkSky (putIn ls look) ws es cap turn with | none => .ok (.tp [.ls ((putIn ls look).map encL), .ls ws, .ls (es.map encE), .pu cap, .pu turn]) | some e => .er (E e)) ∧ ls.length ≤ 100
theorem sc_with_look : FnScope ["sky", "look", "start", "at", "found", "other"] ["sky", "look"] (defScope (top 18)) := ⟨rfl, rfl, rfl, by decide +kernel, rfl, by decide +kernel, by decide +kernel⟩
theorem ok_with_look {f : Addr} {fd : FuncData} {E : Wd → Addr} (F : Fun K "with_look" "with_look" (top 18) f fd) (hm : mg "with_look" = some (.ref f)) (hp : ∀ x, x ∈ bnames → mg x = none)
    (C1 : Callee P w K mg base 1 "with_looks" ["sky", "looks"] S_with_looks) (C2 : Callee P w K mg base 4 "check_sky" ["sky"] (S_check_sky E)) : Callee P w K mg base 5 "with_look" ["sky", "look"] (S_with_look E) := by
  refine callee_by F hm hp sc_with_look (fun _ _ _ _ _ _ us hl => match us, hl with | [_, _], _ => rfl) (fun args a h => ?_) (fun X _ _ _ _ _ _ args a h => ?_)
  · obtain ⟨_, _, _, _, _, _, rfl, _⟩ := h; rfl
  · obtain ⟨ls, look, ws, es, cap, turn, rfl, rfl, hl⟩ := h
    show Svb _ [some (.pu (.tuple [.list (ls.map encI), .list ws, .list (es.map encE), cap, turn])), some (.pu (.tuple [look.1, look.2.1, look.2.2.1, look.2.2.2.1, look.2.2.2.2])), none, none, none, none] _ _
    walk_at "dl set"
    walk_at "dl set"
    refine svbIfJ (t := isInt look.2.1 && !isBool look.2.1) (fun ρ => ∃ v, ρ = [some (.pu (.tuple [.list (ls.map encI), .list ws, .list (es.map encE), cap, turn])), some (.pu (.tuple [look.1, look.2.1, look.2.2.1, look.2.2.2.1, look.2.2.2.2])), some (.pu look.2.1), some (.pu (.int (atOf ls look.2.1))), none, v])
      (EvW.t (evw_and ?_ fun _ => evw_and1 ?_)) (fun h => ?_) (fun h => ?_) ?_
    · walk_at "dl evt"
    · walk_at "dl evt"
    · obtain ⟨s, hs⟩ : ∃ s, look.2.1 = .int s := by
        cases hd : look.2.1 with
        | int i => exact ⟨i, rfl⟩
        | bool b => rw [hd] at h; simp [isBool] at h
        | _ => rw [hd] at h; simp [isInt] at h
      rw [hs]
      refine svbSet (r := .pu (.int (atOf ls (.int s)))) (by walk_at "dl nl") ?_ ?_ (by simp) rfl
      · refine EvP.i (EvP.is (evLenl (Ev.p (evLcT [("other", 5)] (fun l : LkI => if decide (l.2.1 ≤ s) = true then some (encI l) else none) (enc := encI) (by walk_at "dl evi") (by decide +kernel) (fun l hl => ?_) ?_ fun _ => rfl)) (by walk_at "dl ng") rfl) ?_) rfl
        · walk_at "dl lci1"
        · exact small (by omega)
        · rw [fm_ite, List.length_map]; rfl
      · exact svb_nil (svb_end ⟨_, rfl⟩)
    · refine svb_nil (svb_end ⟨none, ?_⟩)
      have e : atOf ls look.2.1 = ls.length := by
        cases hd : look.2.1 with
        | int i => rw [hd] at h; simp [isInt, isBool] at h
        | _ => rfl
      simp [e]
    · rintro ρ' ⟨v, rfl⟩
      have hat := atOf_le ls look.2.1
      refine svbSet (r := .tp [.ls ((putIn ls look).map encL), .ls ws, .ls (es.map encE), .pu cap, .pu turn]) (by walk_at "dl nl") ?_ ?_ (by simp) rfl
      · have e : (putIn ls look).map encL = cutD (ls.map encI) none (some (atOf ls look.2.1 : Int)) ++ [encL look] ++ cutD (ls.map encI) (some (atOf ls look.2.1 : Int)) none := by
          rw [cutD_take (by simpa using hat), cutD_drop (by simpa using hat)]
          simp only [putIn, List.map_append, List.map_map, List.map_cons, List.map_nil, ← List.map_take, ← List.map_drop]
          rfl
        rw [e]
        have hat' : atOf ls look.2.1 ≤ (ls.map encI).length := by simpa using hat
        have hl' : (ls.map encI).length ≤ 100 := by simpa using hl
        walk_at "dl ev"
      · dsimp only [List.set]
        cases hq : chkSky (putIn ls look) ws es cap turn with
        | none =>
          refine svb_expr (r := .pu .none) ?_ (svbRetO (by walk_at "dl nm") rfl (by simp [Ends1])) rfl
          walk_at "dl ev"
          case S => exact ⟨putIn ls look, ws, es, cap, turn, rfl, by rw [hq]; rfl⟩
        | some e =>
          refine svb_exprX (C := E e) ?_ (by simp [Ends1]) rfl
          walk_at "dl ex"
          case S => exact ⟨putIn ls look, ws, es, cap, turn, rfl, by rw [hq]; rfl⟩
/-! _law_is_within: the same text -/
theorem sc_l_within : FnScope ["_law_value", "_law_low", "_law_high"] ["_law_value", "_law_low", "_law_high"] (defScope (top 23)) := ⟨rfl, rfl, rfl, by decide +kernel, rfl, by decide +kernel, by decide +kernel⟩
theorem ok_l_within {f : Addr} {fd : FuncData} (F : Fun K "_law_is_within" "_law_is_within" (top 23) f fd) (hm : mg "_law_is_within" = some (.ref f)) (hp : ∀ x, x ∈ bnames → mg x = none) : Callee P w K mg base 1 "_law_is_within" ["_law_value", "_law_low", "_law_high"] S_is_within := by
  refine callee_by F hm hp sc_l_within (fun _ _ _ _ _ _ us hl => match us, hl with | [_, _, _], _ => rfl) (fun args a h => ?_) (fun X _ _ _ _ _ _ args a h => ?_)
  · obtain ⟨d, lo, hi, rfl, _⟩ := h; rfl
  · obtain ⟨d, lo, hi, rfl, rfl⟩ := h
    show Svb _ [some (.pu d), some (.pu (.int lo)), some (.pu (.int hi))] _ _
    refine' svb_ret (r := .pu (.bool (within d lo hi))) (EvP.i (evp_and2 (t := isInt d) ?xa fun h1 => evp_and2 (t := !isBool d) ?xb fun h2 => evp_one ?xc) rfl) rfl
    case xa => walk_at "dl evp"
    case xb => walk_at "dl evp"
    case xc =>
      cases d with
      | int i => walk_at "dl evp"
      | bool b => simp [isBool] at h2
      | _ => simp [isInt] at h1
/-! _law_due -/
def dueD (ls : List LkI) (look : Lk) (ws : List D) (es : List Er) (cap turn : D) : D :=
  if 15 < ls.length then .str "size"
  else if within look.1 0 ((ws.length : Int) - 1) = false then .str "wish"
  else if within look.2.1 0 200 = false ∨ within look.2.2.1 1 20 = false then .str "time"
  else if within look.2.2.2.1 (-90) 90 = false ∨ within look.2.2.2.2 1 30 = false then .str "number"
  else .tuple [.list ((putIn ls look).map encL), .list ws, .list (es.map encE), cap, turn]
def S_due : List RV → Ans → Prop := fun args a => ∃ (ls : List LkI) (look : Lk), ∃ ws es cap turn, args = [.pu (skyI ls ws es cap turn), .pu (encL look)] ∧ a = .ok (.pu (dueD ls look ws es cap turn)) ∧ ls.length ≤ 100
theorem sc_due : FnScope ["_law_sky_here", "_law_look", "_law_wish", "_law_start", "_law_length", "_law_angle", "_law_size", "_law_at", "_law_other"] ["_law_sky_here", "_law_look"] (defScope (top 24)) := ⟨rfl, rfl, rfl, by decide +kernel, rfl, by decide +kernel, by decide +kernel⟩
theorem ok_due {f : Addr} {fd : FuncData} (F : Fun K "_law_due" "_law_due" (top 24) f fd) (hm : mg "_law_due" = some (.ref f)) (hp : ∀ x, x ∈ bnames → mg x = none)
    (C1 : Callee P w K mg base 1 "_law_is_within" ["_law_value", "_law_low", "_law_high"] S_is_within) : Callee P w K mg base 2 "_law_due" ["_law_sky_here", "_law_look"] S_due := by
  refine callee_by F hm hp sc_due (fun _ _ _ _ _ _ us hl => match us, hl with | [_, _], _ => rfl) (fun args a h => ?_) (fun X _ _ _ _ _ _ args a h => ?_)
  · obtain ⟨_, _, _, _, _, _, rfl, _⟩ := h; rfl
  · obtain ⟨ls, look, ws, es, cap, turn, rfl, rfl, hl⟩ := h
    show Svb _ [some (.pu (.tuple [.list (ls.map encI), .list ws, .list (es.map encE), cap, turn])), some (.pu (.tuple [look.1, look.2.1, look.2.2.1, look.2.2.2.1, look.2.2.2.2])), none, none, none, none, none, none, none] _ _
    walk_at "dl asg"
    refine svb_if (t := decide (15 < ((ls.map encI).length : Int))) (by walk_at "dl evt") (fun h => ?_) (fun ha => svb_nil ?_)
    · refine svb_ret (r := .pu (.str "size")) (by walk_at "dl ev") ?_
      simp only [decide_eq_true_eq, List.length_map] at h
      have h' : 15 < ls.length := by omega
      simp only [Ends1, dueD, if_pos h']
    simp only [decide_eq_false_iff_not, List.length_map] at ha
    have ha' : ¬ 15 < ls.length := by omega
    refine svb_if (t := !within look.1 0 ((ws.length : Int) - 1)) (by walk_at "dl evt") (fun h => ?_) (fun hb => svb_nil ?_)
    · refine svb_ret (r := .pu (.str "wish")) (by walk_at "dl ev") ?_
      simp only [Bool.not_eq_true'] at h
      simp only [Ends1, dueD, if_neg ha', if_pos h]
    have hb' : ¬ within look.1 0 ((ws.length : Int) - 1) = false := by simpa using hb
    refine svb_if (t := !within look.2.1 0 200 || !within look.2.2.1 1 20) (EvW.t (evw_or ?_ fun h => evw_or1 ?_)) (fun h => ?_) (fun hc => svb_nil ?_)
    · walk_at "dl evt"
    · walk_at "dl evt"
    · refine svb_ret (r := .pu (.str "time")) (by walk_at "dl ev") ?_
      simp only [Bool.or_eq_true, Bool.not_eq_true'] at h
      simp only [Ends1, dueD, if_neg ha', if_neg hb', if_pos h]
    have hc' : ¬ (within look.2.1 0 200 = false ∨ within look.2.2.1 1 20 = false) := by simpa using hc
    refine svb_if (t := !within look.2.2.2.1 (-90) 90 || !within look.2.2.2.2 1 30) (EvW.t (evw_or ?_ fun h => evw_or1 ?_)) (fun h => ?_) (fun hd => svb_nil ?_)
    · walk_at "dl evt"
    · walk_at "dl evt"
    · refine svb_ret (r := .pu (.str "number")) (by walk_at "dl ev") ?_
      simp only [Bool.or_eq_true, Bool.not_eq_true'] at h
      simp only [Ends1, dueD, if_neg ha', if_neg hb', if_neg hc', if_pos h]
    have hd' : ¬ (within look.2.2.2.1 (-90) 90 = false ∨ within look.2.2.2.2 1 30 = false) := by simpa using hd
    have hs1 : within look.2.1 0 200 = true := by
      cases hw : within look.2.1 0 200 with
      | true => rfl
      | false => exact absurd (.inl hw) hc'
    obtain ⟨s, hs, _⟩ := within_int hs1
    rw [hs]
    refine svbSet (r := .pu (.int (atOf ls (.int s)))) (by walk_at "dl nl") ?_ ?_ (by simp) rfl
    · refine EvP.i (EvP.is (evLenl (Ev.p (evLcT [("_law_other", 8)] (fun l : LkI => if decide (l.2.1 ≤ s) = true then some (encI l) else none) (enc := encI) (by walk_at "dl evi") (by decide +kernel) (fun l hl => ?_) ?_ fun _ => rfl)) (by walk_at "dl ng") rfl) ?_) rfl
      · walk_at "dl lci1"
      · exact small (by omega)
      · rw [fm_ite, List.length_map]; rfl
    · dsimp only [List.set]
      have hat := atOf_le ls (.int s)
      have e : (putIn ls look).map encL = cutD (ls.map encI) none (some (atOf ls (.int s) : Int)) ++ [encL look] ++ cutD (ls.map encI) (some (atOf ls (.int s) : Int)) none := by
        rw [cutD_take (by simpa using hat), cutD_drop (by simpa using hat)]
        simp only [putIn, hs, List.map_append, List.map_map, List.map_cons, List.map_nil, ← List.map_take, ← List.map_drop]
        rfl
      refine svb_ret (r := .pu (.tuple [.list ((putIn ls look).map encL), .list ws, .list (es.map encE), cap, turn])) ?_ (by simp only [Ends1, dueD, if_neg ha', if_neg hb', if_neg hc', if_neg hd'])
      rw [e]
      have hat' : atOf ls (.int s) ≤ (ls.map encI).length := by simpa using hat
      have hl' : (ls.map encI).length ≤ 100 := by simpa using hl
      have el : encL look = .tuple [look.1, .int s, look.2.2.1, look.2.2.2.1, look.2.2.2.2] := by rw [← hs]; rfl
      rw [el]
      refine evTup (evu_cons (Ev.fz ?_) (evu_cons ?_ (evu_cons ?_ (evu_cons ?_ (evu_cons ?_ evu_nil))))) (small (by simp))
      all_goals walk_at "dl ev"
end
section
variable {P : Program} {w : World} {K : PySem.W.Frag} {mg : Str → Option Value} {base : Heap}
def wordW : Wd → Str
  | .size => "size"
  | .number => "number"
  | .wish => "wish"
  | .time => "time"
/-- what the written part says of the errors' classes and of their base at S -/
structure ErrF (K : PySem.W.Frag) (mg : Str → Option Value) (E : Wd → Addr) (S : Addr) : Prop where
  cl : ∀ u, ExcC K (E u)
  kS : ∀ u, PySem.W.kitOne K (.ref (E u)) (.ref S) = some true
  kV : ∀ u, PySem.W.kitOne K (.ref (E u)) (.type "ValueError") = some true
  ex : ∀ u v, PySem.W.exmOne K (.ref (E u)) (.ref (E v)) = some (decide (E u = E v))
  inj : ∀ u v, E u = E v → u = v
  mgS : mg "SkyError" = some (.ref S)
def S_told : List RV → Ans → Prop := fun args a => ∃ (ls : List LkI) (look : Lk), ∃ ws es cap turn, args = [.pu (skyI ls ws es cap turn), .pu (encL look)] ∧
  a = .ok (match chkSky (putIn ls look) ws es cap turn with | none => .tp [.ls ((putIn ls look).map encL), .ls ws, .ls (es.map encE), .pu cap, .pu turn] | some e => .pu (.str (wordW e))) ∧ ls.length ≤ 100
theorem sc_told : FnScope ["_law_sky_here", "_law_look", "e"] ["_law_sky_here", "_law_look"] (defScope (top 22)) := ⟨rfl, rfl, rfl, by decide +kernel, rfl, by decide +kernel, by decide +kernel⟩
theorem ok_told {f : Addr} {fd : FuncData} {E : Wd → Addr} {S : Addr} (F : Fun K "_law_told" "_law_told" (top 22) f fd) (hm : mg "_law_told" = some (.ref f)) (hp : ∀ x, x ∈ bnames → mg x = none) (T : Errs P K mg E) (TF : ErrF K mg E S)
    (C1 : Callee P w K mg base 5 "with_look" ["sky", "look"] (S_with_look E)) : Callee P w K mg base 6 "_law_told" ["_law_sky_here", "_law_look"] S_told := by
  refine callee_by F hm hp sc_told (fun _ _ _ _ _ _ us hl => match us, hl with | [_, _], _ => rfl) (fun args a h => ?_) (fun X _ _ i1 _ b1 _ args a h => ?_)
  · obtain ⟨_, _, _, _, _, _, rfl, _⟩ := h; rfl
  · obtain ⟨ls, look, ws, es, cap, turn, rfl, rfl, hl⟩ := h
    obtain ⟨e1, e2, e3, e4, e5⟩ := i1.is
    show Svb _ [some (.pu (skyI ls ws es cap turn)), some (.pu (encL look)), none] _ _
    have nm : Nm X 2 "e" := by walk_at "dl nm"
    have gI : Ng X "int" := by walk_at "dl ng"
    have gi : Ng X "isinstance" := by walk_at "dl ng"
    have gA : Ng X "SkyError" := by walk_at "dl ng"
    have gV : Ng X "ValueError" := by walk_at "dl ng"
    have hkind : X.env.kindOf "e" = some .local := by
      show X.env.scope.names.lookup ("e" : Str) = _
      rw [b1.sc_]
      decide +kernel
    have hN : X.N[2]? = some ("e" : Str) := nm.at_
    have nmC : ∀ u, (g : Ng X (nameW u)) → Names X (nameW u) (.ref (E u)) := fun u g => ⟨g.gl, g.nd, .inl (by rw [e4]; exact T.mg_ u)⟩
    have hS : X.mg "SkyError" = some (.ref S) := by rw [e4]; exact TF.mgS
    have cl : ∀ u, ExcC X.K (E u) := fun u => by rw [e3]; exact TF.cl u
    have kS : ∀ u, PySem.W.kitOne X.K (.ref (E u)) (.ref S) = some true := fun u => by rw [e3]; exact TF.kS u
    have kV : ∀ u, PySem.W.kitOne X.K (.ref (E u)) (.type "ValueError") = some true := fun u => by rw [e3]; exact TF.kV u
    have n1 := nmC .size (by show Ng X "BadSize"; walk_at "dl ng")
    have n2 := nmC .wish (by show Ng X "BadWish"; walk_at "dl ng")
    have n3 := nmC .time (by show Ng X "BadTime"; walk_at "dl ng")
    have n4 := nmC .number (by show Ng X "BadNumber"; walk_at "dl ng")
    refine svbTryTold (i := 2) (o := "odd") (O1 := fun o => (∃ r, chkSky (putIn ls look) ws es cap turn = none ∧ r = .tp [.ls ((putIn ls look).map encL), .ls ws, .ls (es.map encE), .pu cap, .pu turn] ∧ o = .rt r) ∨ ∃ e, chkSky (putIn ls look) ws es cap turn = some e ∧ o = .ex [some (.pu (skyI ls ws es cap turn)), some (.pu (encL look)), none] (E e))
      [(E .size, "size"), (E .wish, "wish"), (E .time, "time"), (E .number, "number")]
      (told_cons n1 hN hkind (cl _) nm gI gi gA gV hS (kS _) (kV _) (told_cons n2 hN hkind (cl _) nm gI gi gA gV hS (kS _) (kV _) (told_cons n3 hN hkind (cl _) nm gI gi gA gV hS (kS _) (kV _) (told_cons n4 hN hkind (cl _) nm gI gi gA gV hS (kS _) (kV _) .nil)))) (by simp)
      (fun pn xe _ => ?_) ?_ ?_ ?_ ?_
    · cases hq : chkSky (putIn ls look) ws es cap turn with
      | none =>
        refine svb_ret (r := .tp [.ls ((putIn ls look).map encL), .ls ws, .ls (es.map encE), .pu cap, .pu turn]) ?_ (.inl ⟨_, rfl, rfl, rfl⟩)
        walk_at "dl ev"
        case S => exact ⟨ls, look, ws, es, cap, turn, rfl, by rw [hq], hl⟩
      | some e =>
        refine svb_retX (C := E e) ?_ (.inr ⟨e, rfl, rfl⟩)
        walk_at "dl ex"
        case S => exact ⟨ls, look, ws, es, cap, turn, rfl, by rw [hq], hl⟩
    · rintro ρ1 (⟨r, _, _, h⟩ | ⟨e, _, h⟩) <;> cases h
    · rintro r (⟨r', h1, h2, h⟩ | ⟨e, _, h⟩)
      · cases h
        simp only [Ends1, h1, h2]
      · cases h
    · intro ρ1
      constructor
      · rintro (⟨r, _, _, h⟩ | ⟨e, _, h⟩) <;> cases h
      · rintro (⟨r, _, _, h⟩ | ⟨e, _, h⟩) <;> cases h
    · rintro ρ1 B (⟨r, _, _, h⟩ | ⟨e, h1, h⟩)
      · cases h
      · cases h
        refine ⟨rfl, fun p hp' => ?_, wordW e, ?_, by simp only [Ends1, h1]⟩
        · rw [e3]
          simp only [List.mem_cons, List.not_mem_nil, or_false] at hp'
          rcases hp' with rfl | rfl | rfl | rfl <;> exact TF.ex _ _
        · have ne : ∀ u v, u ≠ v → (E u == E v) = false := fun u v h => by
            simp only [beq_eq_false_iff_ne]
            exact fun z => h (TF.inj _ _ z)
          cases e <;> simp [List.lookup, wordW, ne]
end
/-! ### the draws -/
/-- one draw: its value, the rests behind it -/
def stepD (rests : List Int) (k : Nat) : Int × List Int :=
  if rests.length = 0 then (0, rests)
  else if rests.getD (k % rests.length) 0 ≥ 10 ^ 18 then (rests.getD (k % rests.length) 0 % 1000, rests.set (k % rests.length) (rests.getD (k % rests.length) 0 / 1000))
  else ((((rests.getD (k % rests.length) 0 * 48271 + k * 69621 + 11) % 2147483647 * 16807 + ((k % rests.length : Nat) : Int)) % 2147483629 / 7) % 1000, rests)
theorem stepD_length (rests : List Int) (k : Nat) : (stepD rests k).2.length = rests.length := by
  unfold stepD
  split
  · rfl
  · split <;> simp
theorem stepD_range (rests : List Int) (k : Nat) : 0 ≤ (stepD rests k).1 ∧ (stepD rests k).1 < 1000 := by
  unfold stepD
  split
  · exact ⟨Int.le_refl _, (by decide : (0 : Int) < 1000)⟩
  · split
    · exact ⟨Int.emod_nonneg _ (by decide), Int.emod_lt_of_pos _ (by decide)⟩
    · exact ⟨Int.emod_nonneg _ (by decide), Int.emod_lt_of_pos _ (by decide)⟩
/-- the rests and the draws behind n draws -/
def stD (ns : List Int) : Nat → List Int × List Int
  | 0 => (ns, [])
  | n + 1 => ((stepD (stD ns n).1 n).2, (stD ns n).2 ++ [(stepD (stD ns n).1 n).1])
theorem stD_rests (ns : List Int) : ∀ n, (stD ns n).1.length = ns.length
  | 0 => rfl
  | n + 1 => by unfold stD; rw [stepD_length]; exact stD_rests ns n
theorem stD_length (ns : List Int) : ∀ n, (stD ns n).2.length = n
  | 0 => rfl
  | n + 1 => by unfold stD; simp [stD_length ns n]
theorem stD_range (ns : List Int) : ∀ n, ∀ v ∈ (stD ns n).2, 0 ≤ v ∧ v < 1000
  | 0, v, h => by simp [stD] at h
  | n + 1, v, h => by
    unfold stD at h
    rcases List.mem_append.mp h with h | h
    · exact stD_range ns n v h
    · simp only [List.mem_singleton] at h
      rw [h]; exact stepD_range _ _
/-- all n draws -/
def drawsF (ns : List Int) (n : Nat) : List Int := (stD ns n).2
theorem drawsF_length (ns : List Int) (n : Nat) : (drawsF ns n).length = n := stD_length ns n
theorem drawsF_range (ns : List Int) (n i : Nat) : 0 ≤ (drawsF ns n).getD i 0 ∧ (drawsF ns n).getD i 0 < 1000 := by
  by_cases h : i < (drawsF ns n).length
  · rw [List.getD_eq_getElem?_getD, List.getElem?_eq_getElem h]
    exact stD_range ns n _ (List.getElem_mem h)
  · rw [List.getD_eq_getElem?_getD, List.getElem?_eq_none (by omega)]
    exact ⟨Int.le_refl _, by decide⟩
section
variable {P : Program} {w : World} {K : PySem.W.Frag} {mg : Str → Option Value} {base : Heap}
def S_draws : List RV → Ans → Prop := fun args a => ∃ (ns : List Int) (n : Nat), args = [.fz (ns.map PyData.int), .pu (.int n)] ∧ a = .ok (.ls ((drawsF ns n).map PyData.int)) ∧ ns.length ≤ 63 ∧ n ≤ 10000
theorem sc_draws : FnScope ["_law_script", "_law_count", "_law_rests", "_law_draws_here", "_law_k", "_law_value", "_law_at", "_law_mixed", "_law_cell"] ["_law_script", "_law_count"] (defScope (top 20)) := ⟨rfl, rfl, rfl, by decide +kernel, rfl, by decide +kernel, by decide +kernel⟩
theorem ok_draws {f : Addr} {fd : FuncData} (F : Fun K "_law_draws" "_law_draws" (top 20) f fd) (hm : mg "_law_draws" = some (.ref f)) (hp : ∀ x, x ∈ bnames → mg x = none) : Callee P w K mg base 1 "_law_draws" ["_law_script", "_law_count"] S_draws := by
  refine callee_by F hm hp sc_draws (fun _ _ _ _ _ _ us hl => match us, hl with | [_, _], _ => rfl) (fun args a h => ?_) (fun X _ _ _ _ _ _ args a h => ?_)
  · obtain ⟨_, _, rfl, _⟩ := h; rfl
  · obtain ⟨ns, n, rfl, rfl, hns, hn⟩ := h
    show Svb _ [some (.fz (ns.map PyData.int)), some (.pu (.int n)), none, none, none, none, none, none, none] _ _
    refine svbLcT (xs := ns) (enc := PyData.int) [("_law_cell", 8)] (fun x => some (.int x)) (by walk_at "dl nl") (by walk_at "dl evi") (by decide +kernel) (fun x hx => ?_) (small (by omega)) ?_ (by simp) (by decide +kernel) (fun _ => rfl)
    · walk_at "dl lci"
    rw [fm_some]
    dsimp only [List.set]
    walk_at "dl set"
    refine svb_for (fun i ρ => ∃ v1 v2 v3 v4, ρ = [some (.fz (ns.map PyData.int)), some (.pu (.int n)), some (.ls ((stD ns i).1.map PyData.int)), some (.ls ((stD ns i).2.map PyData.int)), v1, v2, v3, v4, none]) (fun _ => False) (evi_r1 (j := n) (by walk_at "dl evp") (plain _) (by omega) (by omega) (by walk_at "dl gl")) ⟨none, none, none, none, rfl⟩ ?_ ?_ (fun _ => rfl)
    · rintro i d ρ1 hi ⟨v1, v2, v3, v4, rfl⟩
      have hin : i < n := by
        have := (List.getElem?_eq_some_iff.mp hi).1
        rw [rangeD_length] at this
        simpa using this
      rw [rangeD_get (by simpa using hin)] at hi
      obtain rfl := Option.some.inj hi
      rw [Int.zero_add]
      refine ⟨_, _, by walk_at "dl tg", ?_⟩
      dsimp only [List.set]
      walk_at "dl set"
      have hl := stD_rests ns i
      refine svbIfJ (t := decide (0 < (((stD ns i).1.map PyData.int).length : Int))) (fun ρ => ∃ v3 v4, ρ = [some (.fz (ns.map PyData.int)), some (.pu (.int n)), some (.ls ((stD ns (i + 1)).1.map PyData.int)), some (.ls ((stD ns i).2.map PyData.int)), some (.pu (.int i)), some (.pu (.int (stepD (stD ns i).1 i).1)), v3, v4, none])
        (by walk_at "dl evt") (fun h => ?_) (fun h => ?_) ?_
      · have hr := of_decide_eq_true h
        simp only [List.length_map, decide_eq_true_eq] at h
        have h0 : ¬ (stD ns i).1.length = 0 := by omega
        have hat : i % (stD ns i).1.length < (stD ns i).1.length := Nat.mod_lt _ (by omega)
        have cm : ∀ L : Nat, ((i : Int) % (L : Int)) = ((i % L : Nat) : Int) := fun L => (Int.natCast_emod i L).symm
        walk_at "dl set"
        rw [List.length_map, cm]
        refine svb_if (by walk_at "dl evt") (fun hc => ?_) (fun hc => ?_)
        · have hc := of_decide_eq_true hc
          have hc' : (stD ns i).1.getD (i % (stD ns i).1.length) 0 ≥ 10 ^ 18 := hc
          have e : stepD (stD ns i).1 i = ((stD ns i).1.getD (i % (stD ns i).1.length) 0 % 1000, (stD ns i).1.set (i % (stD ns i).1.length) ((stD ns i).1.getD (i % (stD ns i).1.length) 0 / 1000)) := by
            unfold stepD; rw [if_neg h0, if_pos hc']
          walk_at "dl set"
          refine svbSetIx (i := 2) (d := .int ((stD ns i).1.getD (i % (stD ns i).1.length) 0 / 1000)) (by walk_at "dl nm") rfl (by walk_at "dl ev") (by walk_at "dl evp") (ixN_nat (by simpa using hat)) ?_
          refine svb_nil (svb_nil (svb_end ?_))
          simp only [OJ, stD, e, List.map_set, List.set]
          exact ⟨_, _, rfl⟩
        · have hc := of_decide_eq_false hc
          have hc' : ¬ (stD ns i).1.getD (i % (stD ns i).1.length) 0 ≥ 10 ^ 18 := hc
          have e : stepD (stD ns i).1 i = ((((((stD ns i).1.getD (i % (stD ns i).1.length) 0 * 48271 + i * 69621 + 11) % 2147483647 * 16807 + ((i % (stD ns i).1.length : Nat) : Int)) % 2147483629 / 7) % 1000, (stD ns i).1) : Int × List Int) := by
            unfold stepD; rw [if_neg h0, if_neg hc']
          walk_at "dl set"
          walk_at "dl set"
          walk_at "dl set"
          refine svb_nil (svb_nil (svb_end ?_))
          simp only [OJ, stD, e]
          exact ⟨_, _, rfl⟩
      · have h0 : (stD ns i).1.length = 0 := by
          have := of_decide_eq_false h
          simp only [List.length_map] at this
          omega
        have e : stepD (stD ns i).1 i = (0, (stD ns i).1) := by
          unfold stepD; rw [if_pos h0]
        refine svb_nil (svb_end ⟨v3, v4, ?_⟩)
        simp only [stD, e]
      · rintro ρ' ⟨u3, u4, rfl⟩
        refine svbApp (i := 3) (by walk_at "dl nm") rfl (by walk_at "dl ev") ?_ ?_ rfl
        · rw [List.length_map, stD_length]
          exact Nat.lt_of_lt_of_le hin (small (by omega))
        · refine svb_nil (svb_end ?_)
          simp only [Turned, List.set, stD, List.map_append, List.map_cons, List.map_nil]
          exact ⟨_, _, _, _, rfl⟩
    · rintro ρ' (⟨v1, v2, v3, v4, rfl⟩ | h)
      case inr => exact h.elim
      refine svbRetO (i := 3) (by walk_at "dl nm") rfl ?_
      simp only [Ends1, rangeD_length, Int.toNat_natCast]
      rfl
end
/-! ### the sky -/
section
variable (g : Int → Int)
/-- the end of the last ear, the ears -/
def earS : Nat → Int × List (Int × Int × Int)
  | 0 => (0, [])
  | n + 1 => ((earS n).1 + g (10 + 3 * n) % 6 + 1 + g (11 + 3 * n) % 5,
      (earS n).2 ++ [((earS n).1 + g (10 + 3 * n) % 6, (earS n).1 + g (10 + 3 * n) % 6 + 1 + g (11 + 3 * n) % 5, 1 + g (12 + 3 * n) % 3)])
/-- the start of the last look, the looks -/
def lookS (wishes : Int) : Nat → Int × List (Int × Int × Int × Int × Int)
  | 0 => (0, [])
  | n + 1 => ((lookS wishes n).1 + g (20 + 5 * n) % 4,
      (lookS wishes n).2 ++ [(g (21 + 5 * n) % wishes, (lookS wishes n).1 + g (20 + 5 * n) % 4, 1 + g (22 + 5 * n) % 3, g (23 + 5 * n) % 61 - 30, 1 + g (24 + 5 * n) % 4)])
theorem earS_length : ∀ n, (earS g n).2.length = n
  | 0 => rfl
  | n + 1 => by simp [earS, earS_length n]
theorem lookS_length (w : Int) : ∀ n, (lookS g w n).2.length = n
  | 0 => rfl
  | n + 1 => by simp [lookS, lookS_length w n]
end
/-- a drawn sky: its looks, worths, ears, store and turn -/
structure Sky0 where
  looks : List (Int × Int × Int × Int × Int)
  worths : List Int
  ears : List (Int × Int × Int)
  cap : Int
  turn : Int
def skyF (vs : List Int) (most : Int) : Sky0 where
  looks := (lookS (G vs) (1 + G vs 0 % 4) (G vs 16 % (most + 1)).toNat).2
  worths := (List.range (1 + G vs 0 % 4).toNat).map fun (k : Nat) => G vs (1 + (k : Int)) % 10
  ears := (earS (G vs) (G vs 9 % 3).toNat).2
  cap := 2 + G vs 7 % 7
  turn := 1 + G vs 8 % 30
def lookD (l : Int × Int × Int × Int × Int) : D := .tuple [.int l.1, .int l.2.1, .int l.2.2.1, .int l.2.2.2.1, .int l.2.2.2.2]
def earD (e : Int × Int × Int) : D := .tuple [.int e.1, .int e.2.1, .int e.2.2]
def Sky0.d (s : Sky0) : D := .tuple [.list (s.looks.map lookD), .list (s.worths.map .int), .list (s.ears.map earD), .int s.cap, .int s.turn]
section
variable {P : Program} {w : World} {K : PySem.W.Frag} {mg : Str → Option Value} {base : Heap}
def S_sky : List RV → Ans → Prop := fun args a => ∃ (vs : List Int) (most : Int), args = [.pu (.list (vs.map PyData.int)), .pu (.int most)] ∧ a = .ok (.pu (skyF vs most).d) ∧ 1 ≤ most ∧ most ≤ 100 ∧ 25 + 5 * most ≤ vs.length
theorem sc_sky : FnScope ["_law_draws_here", "_law_most", "_law_wishes", "_law_worths", "_law_ears", "_law_since", "_law_first", "_law_looks", "_law_start", "_law_angle", "_law_k"] ["_law_draws_here", "_law_most"] (defScope (top 21)) := ⟨rfl, rfl, rfl, by decide +kernel, rfl, by decide +kernel, by decide +kernel⟩
theorem ok_sky {f : Addr} {fd : FuncData} (F : Fun K "_law_sky" "_law_sky" (top 21) f fd) (hm : mg "_law_sky" = some (.ref f)) (hp : ∀ x, x ∈ bnames → mg x = none) : Callee P w K mg base 1 "_law_sky" ["_law_draws_here", "_law_most"] S_sky := by
  refine callee_by F hm hp sc_sky (fun _ _ _ _ _ _ us hl => match us, hl with | [_, _], _ => rfl) (fun args a h => ?_) (fun X _ _ _ _ _ _ args a h => ?_)
  · obtain ⟨_, _, rfl, _⟩ := h; rfl
  · obtain ⟨vs, most, rfl, rfl, h1, h2, h3⟩ := h
    show Svb _ [some (.pu (.list (vs.map PyData.int))), some (.pu (.int most)), none, none, none, none, none, none, none, none, none] _ _
    have r4 : ∀ x : Int, 0 ≤ x % 4 ∧ x % 4 < 4 := fun x => ⟨Int.emod_nonneg _ (by decide), Int.emod_lt_of_pos _ (by decide)⟩
    have r3 : ∀ x : Int, 0 ≤ x % 3 ∧ x % 3 < 3 := fun x => ⟨Int.emod_nonneg _ (by decide), Int.emod_lt_of_pos _ (by decide)⟩
    have hw := r4 (G vs 0)
    have hm' : 0 ≤ G vs 16 % (most + 1) ∧ G vs 16 % (most + 1) < most + 1 := ⟨Int.emod_nonneg _ (by omega), Int.emod_lt_of_pos _ (by omega)⟩
    walk_at "dl set"
    refine svbLcT (xs := List.range (1 + G vs 0 % 4).toNat) (enc := fun (i : Nat) => PyData.int (0 + (i : Int))) [("_law_k", 10)] (fun i => some (.int (G vs (1 + (0 + (i : Int))) % 10))) (by walk_at "dl nl") (evi_r1 (j := 1 + G vs 0 % 4) (by walk_at "dl evp") (plain _) (by omega) (by omega) (by walk_at "dl gl")) (by decide +kernel) (fun i hi => ?_) (small (by simp; omega)) ?_ (by simp) (by decide +kernel) (fun _ => rfl)
    · have hi := List.mem_range.mp hi
      walk_at "dl lci"
    rw [fm_some]
    dsimp only [List.set]
    walk_at "dl set"
    walk_at "dl set"
    have he := r3 (G vs 9)
    refine svb_for (fun i ρ => ∃ v1 v2, ρ = [some (.pu (.list (vs.map PyData.int))), some (.pu (.int most)), some (.pu (.int (1 + G vs 0 % 4))), some (.ls ((List.range (1 + G vs 0 % 4).toNat).map fun (i : Nat) => PyData.int (G vs (1 + (0 + (i : Int))) % 10))), some (.ls ((earS (G vs) i).2.map earD)), some (.pu (.int (earS (G vs) i).1)), v1, none, none, none, v2]) (fun _ => False)
      (evi_r1 (j := G vs 9 % 3) (by walk_at "dl evp") (plain _) (by omega) (by omega) (by walk_at "dl gl")) ⟨none, none, rfl⟩ ?_ ?_ (fun _ => rfl)
    · rintro i d ρ1 hi ⟨v1, v2, rfl⟩
      have hin : i < (G vs 9 % 3).toNat := by
        have := (List.getElem?_eq_some_iff.mp hi).1
        rw [rangeD_length] at this
        simpa using this
      rw [rangeD_get (by simpa using hin)] at hi
      obtain rfl := Option.some.inj hi
      rw [Int.zero_add]
      refine ⟨_, _, by walk_at "dl tg", ?_⟩
      dsimp only [List.set]
      walk_at "dl set"
      walk_at "dl set"
      have hL := earS_length (G vs) i
      walk_at "dl app"
      refine svb_nil (svb_end ?_)
      simp only [Turned, earS, List.map_append, List.map_cons, List.map_nil]
      exact ⟨_, _, rfl⟩
    · rintro ρ' (⟨v1, v2, rfl⟩ | h)
      case inr => exact h.elim
      rw [rangeD_length]
      walk_at "dl set"
      walk_at "dl set"
      refine svb_for (fun i ρ => ∃ v2 v3, ρ = [some (.pu (.list (vs.map PyData.int))), some (.pu (.int most)), some (.pu (.int (1 + G vs 0 % 4))), some (.ls ((List.range (1 + G vs 0 % 4).toNat).map fun (i : Nat) => PyData.int (G vs (1 + (0 + (i : Int))) % 10))), some (.ls ((earS (G vs) (G vs 9 % 3).toNat).2.map earD)), some (.pu (.int (earS (G vs) (G vs 9 % 3).toNat).1)), v1,
          some (.ls ((lookS (G vs) (1 + G vs 0 % 4) i).2.map lookD)), some (.pu (.int (lookS (G vs) (1 + G vs 0 % 4) i).1)), v2, v3]) (fun _ => False)
        (evi_r1 (j := G vs 16 % (most + 1)) (by walk_at "dl evp") (plain _) (by omega) (by omega) (by walk_at "dl gl")) ⟨none, _, rfl⟩ ?_ ?_ (fun _ => rfl)
      · rintro i d ρ1 hi ⟨v2, v3, rfl⟩
        have hin : i < (G vs 16 % (most + 1)).toNat := by
          have := (List.getElem?_eq_some_iff.mp hi).1
          rw [rangeD_length] at this
          simpa using this
        rw [rangeD_get (by simpa using hin)] at hi
        obtain rfl := Option.some.inj hi
        rw [Int.zero_add]
        refine ⟨_, _, by walk_at "dl tg", ?_⟩
        dsimp only [List.set]
        walk_at "dl set"
        walk_at "dl set"
        have hL := lookS_length (G vs) (1 + G vs 0 % 4) i
        walk_at "dl app"
        refine svb_nil (svb_end ?_)
        simp only [Turned, lookS, List.map_append, List.map_cons, List.map_nil]
        exact ⟨_, _, rfl⟩
      · rintro ρ' (⟨v2, v3, rfl⟩ | h)
        case inr => exact h.elim
        rw [rangeD_length]
        refine svb_fz 3 rfl (svb_fz 4 rfl (svb_fz 7 rfl ?_))
        dsimp only [List.set]
        refine svb_ret (r := .pu (skyF vs most).d) (Ev.is (by walk_at "dl ev") ?_) rfl
        simp only [Sky0.d, skyF, List.map_map, Int.zero_add]
        rfl
end
/-! ### the drawn sky: what is known of it -/
theorem depthAll_le {n : Nat} : ∀ {ds : List D}, (∀ d ∈ ds, d.depth ≤ n) → PyData.depthAll ds ≤ n
  | [], _ => by simp [PyData.depthAll]
  | d :: ds, h => by
    simp only [PyData.depthAll]
    exact Nat.max_le.mpr ⟨h d (by simp), depthAll_le fun x hx => h x (by simp [hx])⟩
theorem canLayAll_of : ∀ {ds : List D}, (∀ d ∈ ds, d.canLay0 = true) → PyData.canLayAll0 ds = true
  | [], _ => by simp [PyData.canLayAll0]
  | d :: ds, h => by
    simp only [PyData.canLayAll0, Bool.and_eq_true]
    exact ⟨h d (by simp), canLayAll_of fun x hx => h x (by simp [hx])⟩
theorem showAll_of : ∀ {ds : List D}, (∀ d ∈ ds, d.showable = true) → PyData.showableAll ds = true
  | [], _ => by simp [PyData.showableAll]
  | d :: ds, h => by
    simp only [PyData.showableAll, Bool.and_eq_true]
    exact ⟨h d (by simp), showAll_of fun x hx => h x (by simp [hx])⟩
theorem shortAll_of {B : Nat} : ∀ {ds : List D}, (∀ d ∈ ds, d.intsShort B = true) → PyData.intsShortAll B ds = true
  | [], _ => by simp [PyData.intsShortAll]
  | d :: ds, h => by
    simp only [PyData.intsShortAll, Bool.and_eq_true]
    exact ⟨h d (by simp), shortAll_of fun x hx => h x (by simp [hx])⟩
theorem weightAll_le {n : Nat} : ∀ {ds : List D}, (∀ d ∈ ds, d.weight ≤ n) → PyData.weightAll ds ≤ ds.length * (n + 1)
  | [], _ => by simp [PyData.weightAll]
  | d :: ds, h => by
    have h1 := h d (by simp)
    have h2 := weightAll_le (n := n) (ds := ds) fun x hx => h x (by simp [hx])
    simp only [PyData.weightAll, List.length_cons, Nat.add_mul, Nat.one_mul]
    omega
/-- small data: nothing but small numbers, in lists and tuples -/
structure Sm (d : D) (dep wt : Nat) : Prop where
  can : d.canLay0 = true
  sho : d.showable = true
  int : d.intsShort 13 = true
  dep : d.depth ≤ dep
  wt : d.weight ≤ wt
theorem Sm.up {d : D} {a b a' b' : Nat} (h : Sm d a b) (h1 : a ≤ a') (h2 : b ≤ b') : Sm d a' b' := ⟨h.can, h.sho, h.int, Nat.le_trans h.dep h1, Nat.le_trans h.wt h2⟩
theorem sm_int {i : Int} (h : -1000000000 ≤ i ∧ i ≤ 1000000000) : Sm (.int i) 0 31 := by
  have hn : i.natAbs < 10 ^ 12 := by omega
  have hb : i.natAbs ≤ 1000000000 := by omega
  have hl : i.natAbs.log2 < 31 := by
    by_cases h0 : i.natAbs = 0
    · rw [h0]; decide
    · exact (Nat.log2_lt h0).mpr (by omega)
  refine ⟨by simp [PyData.canLay0], ?_, ?_, by simp [PyData.depth], ?_⟩
  · simp only [PyData.showable, decide_eq_true_eq]; omega
  · simp only [PyData.intsShort, decide_eq_true_eq]; exact PyData.shown_int_le hn
  · simp only [PyData.weight]
    split <;> omega
theorem sm_list {ds : List D} {a b : Nat} (h : ∀ d ∈ ds, Sm d a b) : Sm (.list ds) (a + 1) (ds.length * (b + 1)) :=
  ⟨by simp only [PyData.canLay0]; exact canLayAll_of fun d hd => (h d hd).can, by simp only [PyData.showable]; exact showAll_of fun d hd => (h d hd).sho, by simp only [PyData.intsShort]; exact shortAll_of fun d hd => (h d hd).int,
    by simp only [PyData.depth]; exact Nat.succ_le_succ (depthAll_le fun d hd => (h d hd).dep), by simp only [PyData.weight]; exact weightAll_le fun d hd => (h d hd).wt⟩
theorem sm_tup {ds : List D} {a b : Nat} (h : ∀ d ∈ ds, Sm d a b) : Sm (.tuple ds) (a + 1) (ds.length * (b + 1)) :=
  ⟨by simp only [PyData.canLay0]; exact canLayAll_of fun d hd => (h d hd).can, by simp only [PyData.showable]; exact showAll_of fun d hd => (h d hd).sho, by simp only [PyData.intsShort]; exact shortAll_of fun d hd => (h d hd).int,
    by simp only [PyData.depth]; exact Nat.succ_le_succ (depthAll_le fun d hd => (h d hd).dep), by simp only [PyData.weight]; exact weightAll_le fun d hd => (h d hd).wt⟩
theorem Sm.shw {d : D} {a b : Nat} (h : Sm d a b) (h1 : a ≤ 60) (h2 : b ≤ 1000000) : Shw d :=
  ⟨h.sho, PyData.hasDict_of_canLay d h.can, Nat.le_trans h.dep h1, PyData.shown_fits_of_layable0 (B := 13) (by decide) (by decide) (by
    simp only [PyData.layable0, Bool.and_eq_true, decide_eq_true_eq]
    exact ⟨⟨h.can, by have := h.dep; omega⟩, by have := h.wt; have : (2 : Nat) ^ 20 = 1048576 := by decide
                                                omega⟩) h.int⟩
theorem Sm.shaped {d : D} {a b : Nat} (h : Sm d a b) (h1 : a ≤ 60) : SeqAt.shaped d = true := by
  simp only [SeqAt.shaped, Bool.and_eq_true, decide_eq_true_eq]
  exact ⟨h.can, by have := h.dep; omega⟩
/-- numbers of a sky that are small -/
structure SmS (s : Sky0) : Prop where
  lk : ∀ l ∈ s.looks, (-1000000000 ≤ l.1 ∧ l.1 ≤ 1000000000) ∧ (-1000000000 ≤ l.2.1 ∧ l.2.1 ≤ 1000000000) ∧ (-1000000000 ≤ l.2.2.1 ∧ l.2.2.1 ≤ 1000000000) ∧ (-1000000000 ≤ l.2.2.2.1 ∧ l.2.2.2.1 ≤ 1000000000) ∧ (-1000000000 ≤ l.2.2.2.2 ∧ l.2.2.2.2 ≤ 1000000000)
  wo : ∀ w ∈ s.worths, -1000000000 ≤ w ∧ w ≤ 1000000000
  ea : ∀ e ∈ s.ears, (-1000000000 ≤ e.1 ∧ e.1 ≤ 1000000000) ∧ (-1000000000 ≤ e.2.1 ∧ e.2.1 ≤ 1000000000) ∧ (-1000000000 ≤ e.2.2 ∧ e.2.2 ≤ 1000000000)
  ca : -1000000000 ≤ s.cap ∧ s.cap ≤ 1000000000
  tu : -1000000000 ≤ s.turn ∧ s.turn ≤ 1000000000
  nl : s.looks.length ≤ 100
  nw : s.worths.length ≤ 100
  ne : s.ears.length ≤ 100
theorem SmS.sm {s : Sky0} (h : SmS s) : Sm s.d 3 200000 := by
  have hl : ∀ d ∈ s.looks.map lookD, Sm d 1 160 := fun d hd => by
    obtain ⟨l, hl, rfl⟩ := List.mem_map.mp hd
    obtain ⟨h1, h2, h3, h4, h5⟩ := h.lk l hl
    refine (sm_tup (a := 0) (b := 31) fun x hx => ?_).up (Nat.le_refl _) (Nat.le_refl _)
    simp only [List.mem_cons, List.not_mem_nil, or_false] at hx
    rcases hx with rfl | rfl | rfl | rfl | rfl
    all_goals exact sm_int (by assumption)
  have hw : ∀ d ∈ s.worths.map PyData.int, Sm d 0 31 := fun d hd => by
    obtain ⟨x, hx, rfl⟩ := List.mem_map.mp hd
    exact sm_int (h.wo x hx)
  have he : ∀ d ∈ s.ears.map earD, Sm d 1 96 := fun d hd => by
    obtain ⟨e, he, rfl⟩ := List.mem_map.mp hd
    obtain ⟨h1, h2, h3⟩ := h.ea e he
    refine (sm_tup (a := 0) (b := 31) fun x hx => ?_).up (Nat.le_refl _) (Nat.le_refl _)
    simp only [List.mem_cons, List.not_mem_nil, or_false] at hx
    rcases hx with rfl | rfl | rfl
    all_goals exact sm_int (by assumption)
  have n1 := h.nl
  have n2 := h.nw
  have n3 := h.ne
  refine (sm_tup (a := 2) (b := 20000) fun x hx => ?_).up (Nat.le_refl _) (by simp)
  simp only [List.mem_cons, List.not_mem_nil, or_false] at hx
  rcases hx with rfl | rfl | rfl | rfl | rfl
  · exact (sm_list hl).up (Nat.le_refl _) (by rw [List.length_map]; omega)
  · exact (sm_list hw).up (by decide) (by rw [List.length_map]; omega)
  · exact (sm_list he).up (by decide) (by rw [List.length_map]; omega)
  · exact (sm_int h.ca).up (by decide) (by decide)
  · exact (sm_int h.tu).up (by decide) (by decide)
/-! what is drawn -/
theorem em (x : Int) {m : Int} (h : 0 < m) : 0 ≤ x % m ∧ x % m < m := ⟨Int.emod_nonneg _ (by omega), Int.emod_lt_of_pos _ h⟩
/-- the looks that are drawn: in order, their numbers -/
structure LkIn (w t : Int) (l : Int × Int × Int × Int × Int) : Prop where
  h1 : 0 ≤ l.1 ∧ l.1 < w
  h2 : 0 ≤ l.2.1 ∧ l.2.1 ≤ t
  h3 : 1 ≤ l.2.2.1 ∧ l.2.2.1 ≤ 3
  h4 : -30 ≤ l.2.2.2.1 ∧ l.2.2.2.1 ≤ 30
  h5 : 1 ≤ l.2.2.2.2 ∧ l.2.2.2.2 ≤ 4
theorem LkIn.mono {w t t' : Int} {l : Int × Int × Int × Int × Int} (h : LkIn w t l) (ht : t ≤ t') : LkIn w t' l := ⟨h.h1, ⟨h.h2.1, Int.le_trans h.h2.2 ht⟩, h.h3, h.h4, h.h5⟩
/-- the starts do not descend -/
def Asc : Int → List (Int × Int × Int × Int × Int) → Prop
  | _, [] => True
  | s, l :: r => s ≤ l.2.1 ∧ Asc l.2.1 r
theorem asc_snoc {l : Int × Int × Int × Int × Int} : ∀ {s : Int} {xs : List (Int × Int × Int × Int × Int)}, Asc s xs → (∀ x ∈ xs, x.2.1 ≤ l.2.1) → s ≤ l.2.1 → Asc s (xs ++ [l])
  | _, [], _, _, h => ⟨h, trivial⟩
  | s, x :: xs, ⟨h1, h2⟩, h3, _ => ⟨h1, asc_snoc h2 (fun y hy => h3 y (by simp [hy])) (h3 x (by simp))⟩
theorem lookS_in (g : Int → Int) {w : Int} (hw : 0 < w) : ∀ n, (0 ≤ (lookS g w n).1 ∧ (lookS g w n).1 ≤ 3 * n) ∧ (∀ l ∈ (lookS g w n).2, LkIn w (lookS g w n).1 l) ∧ Asc 0 (lookS g w n).2
  | 0 => ⟨⟨Int.le_refl _, Int.le_refl _⟩, fun l hl => (by cases hl), trivial⟩
  | n + 1 => by
    obtain ⟨h1, h2, h3⟩ := lookS_in g hw n
    have e1 := em (g (20 + 5 * n)) (m := 4) (by decide)
    have e2 := em (g (21 + 5 * n)) hw
    have e3 := em (g (22 + 5 * n)) (m := 3) (by decide)
    have e4 := em (g (23 + 5 * n)) (m := 61) (by decide)
    have e5 := em (g (24 + 5 * n)) (m := 4) (by decide)
    unfold lookS
    refine ⟨⟨by dsimp only; omega, by dsimp only; push_cast; omega⟩, fun l hl => ?_, ?_⟩
    · rcases List.mem_append.mp hl with hl | hl
      · exact (h2 l hl).mono (by dsimp only; omega)
      · simp only [List.mem_singleton] at hl
        subst hl
        exact ⟨e2, ⟨by dsimp only; omega, Int.le_refl _⟩, ⟨by dsimp only; omega, by dsimp only; omega⟩, ⟨by dsimp only; omega, by dsimp only; omega⟩, ⟨by dsimp only; omega, by dsimp only; omega⟩⟩
    · exact asc_snoc h3 (fun x hx => by have := (h2 x hx).h2.2; dsimp only; omega) (by dsimp only; omega)
/-- the ears that are drawn -/
def AscE : Int → List (Int × Int × Int) → Prop
  | _, [] => True
  | s, e :: r => s ≤ e.1 ∧ e.1 < e.2.1 ∧ AscE e.2.1 r
theorem ascE_snoc {l : Int × Int × Int} : ∀ {s : Int} {xs : List (Int × Int × Int)}, AscE s xs → (∀ x ∈ xs, x.2.1 ≤ l.1) → s ≤ l.1 → l.1 < l.2.1 → AscE s (xs ++ [l])
  | _, [], _, _, h, h' => ⟨h, h', trivial⟩
  | s, x :: xs, ⟨h1, h2, h2'⟩, h3, _, h' => ⟨h1, h2, ascE_snoc h2' (fun y hy => h3 y (by simp [hy])) (h3 x (by simp)) h'⟩
theorem earS_in (g : Int → Int) : ∀ n, (0 ≤ (earS g n).1 ∧ (earS g n).1 ≤ 10 * n) ∧ (∀ e ∈ (earS g n).2, (0 ≤ e.1 ∧ e.2.1 ≤ (earS g n).1) ∧ (1 ≤ e.2.2 ∧ e.2.2 ≤ 3)) ∧ AscE 0 (earS g n).2
  | 0 => ⟨⟨Int.le_refl _, Int.le_refl _⟩, fun l hl => (by cases hl), trivial⟩
  | n + 1 => by
    obtain ⟨h1, h2, h3⟩ := earS_in g n
    have e1 := em (g (10 + 3 * n)) (m := 6) (by decide)
    have e2 := em (g (11 + 3 * n)) (m := 5) (by decide)
    have e3 := em (g (12 + 3 * n)) (m := 3) (by decide)
    unfold earS
    refine ⟨⟨by dsimp only; omega, by dsimp only; push_cast; omega⟩, fun l hl => ?_, ?_⟩
    · rcases List.mem_append.mp hl with hl | hl
      · obtain ⟨⟨a, b⟩, c⟩ := h2 l hl
        exact ⟨⟨a, by dsimp only; omega⟩, c⟩
      · simp only [List.mem_singleton] at hl
        subst hl
        exact ⟨⟨by dsimp only; omega, Int.le_refl _⟩, by dsimp only; omega, by dsimp only; omega⟩
    · exact ascE_snoc h3 (fun x hx => by have := (h2 x hx).1.2; dsimp only; omega) (by dsimp only; omega) (by dsimp only; omega)
/-- a drawn sky -/
structure DrawnS (s : Sky0) (most : Int) : Prop where
  nl : (s.looks.length : Int) ≤ most
  nw : 1 ≤ s.worths.length ∧ s.worths.length ≤ 4
  ne : s.ears.length ≤ 2
  lk : ∀ l ∈ s.looks, LkIn s.worths.length (3 * most) l
  as : Asc 0 s.looks
  wo : ∀ w ∈ s.worths, 0 ≤ w ∧ w ≤ 9
  ea : ∀ e ∈ s.ears, (0 ≤ e.1 ∧ e.2.1 ≤ 20) ∧ (1 ≤ e.2.2 ∧ e.2.2 ≤ 3)
  ae : AscE 0 s.ears
  ca : 2 ≤ s.cap ∧ s.cap ≤ 8
  tu : 1 ≤ s.turn ∧ s.turn ≤ 30
theorem drawn {vs : List Int} {most : Int} (hm : 0 ≤ most) : DrawnS (skyF vs most) most := by
  have e0 := em (G vs 0) (m := 4) (by decide)
  have e9 := em (G vs 9) (m := 3) (by decide)
  have e16 := em (G vs 16) (m := most + 1) (by omega)
  have e7 := em (G vs 7) (m := 7) (by decide)
  have e8 := em (G vs 8) (m := 30) (by decide)
  have hw : (((skyF vs most).worths.length : Nat) : Int) = 1 + G vs 0 % 4 := by
    simp only [skyF, List.length_map, List.length_range]; omega
  obtain ⟨a1, a2, a3⟩ := lookS_in (G vs) (w := 1 + G vs 0 % 4) (by omega) (G vs 16 % (most + 1)).toNat
  obtain ⟨b1, b2, b3⟩ := earS_in (G vs) (G vs 9 % 3).toNat
  refine ⟨?_, ⟨by omega, by omega⟩, ?_, fun l hl => ?_, a3, fun w hw' => ?_, fun e he => ?_, b3, ⟨?_, ?_⟩, ⟨?_, ?_⟩⟩
  · simp only [skyF, lookS_length]; omega
  · simp only [skyF, earS_length]; omega
  · rw [hw]
    exact (a2 l hl).mono (by omega)
  · simp only [skyF, List.mem_map] at hw'
    obtain ⟨k, _, rfl⟩ := hw'
    have := em (G vs (1 + (k : Int))) (m := 10) (by decide)
    omega
  · obtain ⟨⟨c1, c2⟩, c3⟩ := b2 e he
    exact ⟨⟨c1, by omega⟩, c3⟩
  · simp only [skyF]; omega
  · simp only [skyF]; omega
  · simp only [skyF]; omega
  · simp only [skyF]; omega
theorem DrawnS.sm {s : Sky0} {most : Int} (h : DrawnS s most) (h2 : most ≤ 100) : SmS s := by
  have n1 := h.nl
  have n2 := h.nw
  have n3 := h.ne
  refine ⟨fun l hl => ?_, fun w hw => ?_, fun e he => ?_, ?_, ?_, by omega, by omega, by omega⟩
  · obtain ⟨a, b, c, d, e⟩ := h.lk l hl
    omega
  · have := h.wo w hw; omega
  · obtain ⟨⟨a, b⟩, c⟩ := h.ea e he
    have : ∀ {s : Int} {xs : List (Int × Int × Int)}, AscE s xs → ∀ e ∈ xs, e.1 < e.2.1 := by
      intro s xs
      induction xs generalizing s with
      | nil => intro _ e he; cases he
      | cons x xs ih =>
        intro h e he
        rcases List.mem_cons.mp he with rfl | he
        · exact h.2.1
        · exact ih h.2.2 e he
    have := this h.ae e he
    omega
  · have := h.ca; omega
  · have := h.tu; omega
/-! ### the plain law: with_look tells what is due -/
def okL (many : Int) : Int → List LkI → Prop
  | _, [] => True
  | s, l :: r => (0 ≤ l.1 ∧ l.1 ≤ many - 1) ∧ (0 ≤ l.2.1 ∧ l.2.1 ≤ 200) ∧ (1 ≤ l.2.2.1 ∧ l.2.2.1 ≤ 20) ∧ (-90 ≤ l.2.2.2.1 ∧ l.2.2.2.1 ≤ 90) ∧ (1 ≤ l.2.2.2.2 ∧ l.2.2.2.2 ≤ 30) ∧ s ≤ l.2.1 ∧ okL many l.2.1 r
def okE : Int → List Er → Prop
  | _, [] => True
  | s, e :: r => (s ≤ e.1 ∧ e.1 ≤ 200) ∧ (e.1 + 1 ≤ e.2.1 ∧ e.2.1 ≤ 200) ∧ (1 ≤ e.2.2 ∧ e.2.2 ≤ 30) ∧ okE e.2.1 r
theorem win {i lo hi : Int} (h : lo ≤ i ∧ i ≤ hi) : within (.int i) lo hi = true := by rw [within_i]; simp [h.1, h.2]
theorem chk_ok {many s : Int} {l : LkI} (h1 : 0 ≤ l.1 ∧ l.1 ≤ many - 1) (h2 : 0 ≤ l.2.1 ∧ l.2.1 ≤ 200) (h3 : 1 ≤ l.2.2.1 ∧ l.2.2.1 ≤ 20) (h4 : -90 ≤ l.2.2.2.1 ∧ l.2.2.2.1 ≤ 90) (h5 : 1 ≤ l.2.2.2.2 ∧ l.2.2.2.2 ≤ 30) (h6 : s ≤ l.2.1) :
    chkLook (.int l.1) (.int l.2.1) (.int l.2.2.1) (.int l.2.2.2.1) (.int l.2.2.2.2) many s = none := by
  have : ¬ l.2.1 < s := by omega
  simp [chkLook, win h1, win h2, win h3, win h4, win h5, intD, this]
theorem chkLooks_ok {many : Int} : ∀ {s : Int} {ls : List LkI}, okL many s ls → chkLooks many s (ls.map liftL) = none
  | _, [], _ => rfl
  | s, l :: r, ⟨h1, h2, h3, h4, h5, h6, h7⟩ => by
    rw [List.map_cons]
    unfold chkLooks
    show (match chkLook (.int l.1) (.int l.2.1) (.int l.2.2.1) (.int l.2.2.2.1) (.int l.2.2.2.2) many s with | some e => some e | none => chkLooks many l.2.1 (r.map liftL)) = none
    rw [chk_ok h1 h2 h3 h4 h5 h6]
    exact chkLooks_ok h7
theorem chkEars_ok : ∀ {s : Int} {es : List Er}, okE s es → chkEars s es = none
  | _, [], _ => rfl
  | s, e :: r, ⟨h1, h2, h3, h4⟩ => by
    unfold chkEars chkEar
    have q1 : ¬ (¬ (s ≤ e.1 ∧ e.1 ≤ 200) ∨ ¬ (e.1 + 1 ≤ e.2.1 ∧ e.2.1 ≤ 200)) := by omega
    have q2 : ¬ ¬ (1 ≤ e.2.2 ∧ e.2.2 ≤ 30) := by omega
    simp only [if_neg q1, if_neg q2]
    exact chkEars_ok h4
/-- what is wrong with a look, whatever stands ahead of it -/
def bad1 (look : Lk) (many : Int) : Option Wd :=
  if within look.1 0 (many - 1) = false then some .wish
  else if within look.2.1 0 200 = false ∨ within look.2.2.1 1 20 = false then some .time
  else if within look.2.2.2.1 (-90) 90 = false ∨ within look.2.2.2.2 1 30 = false then some .number
  else none
theorem okL_all {many : Int} : ∀ {s : Int} {ls : List LkI}, okL many s ls → ∀ l ∈ ls, s ≤ l.2.1
  | _, [], _, l, h => by cases h
  | s, l :: r, ⟨_, _, _, _, _, h6, h7⟩, x, hx => by
    rcases List.mem_cons.mp hx with rfl | hx
    · exact h6
    · exact Int.le_trans h6 (okL_all h7 x hx)
/-- a look with a start that is a number, put in -/
theorem put_int {many t : Int} {w ln an sz : D} : ∀ {s : Int} {ls : List LkI}, okL many s ls → s ≤ t → chkLooks many s (putIn ls (w, .int t, ln, an, sz)) = bad1 (w, .int t, ln, an, sz) many := by
  have one : ∀ {s : Int} {r : List LkI}, okL many t r → s ≤ t → chkLooks many s ((w, .int t, ln, an, sz) :: r.map liftL) = bad1 (w, .int t, ln, an, sz) many := fun {s r} hr hst => by
    have nl : ¬ t < s := by omega
    unfold chkLooks chkLook bad1
    simp only [intD, nl, or_false]
    split
    · rename_i e he
      rw [← he]
    · rename_i he
      rw [show chkLooks many t (r.map liftL) = none from chkLooks_ok hr]
      exact he.symm
  intro s ls
  induction ls generalizing s with
  | nil => intro _ hst; exact one (r := []) trivial hst
  | cons l r ih =>
    intro h hst
    obtain ⟨h1, h2, h3, h4, h5, h6, h7⟩ := h
    by_cases hl : l.2.1 ≤ t
    · have e : putIn (l :: r) (w, .int t, ln, an, sz) = liftL l :: putIn r (w, .int t, ln, an, sz) := by
        simp [putIn, atOf, hl]
      rw [e]
      unfold chkLooks
      show (match chkLook (.int l.1) (.int l.2.1) (.int l.2.2.1) (.int l.2.2.2.1) (.int l.2.2.2.2) many s with | some e => some e | none => chkLooks many l.2.1 (putIn r (w, .int t, ln, an, sz))) = _
      rw [chk_ok h1 h2 h3 h4 h5 h6]
      exact ih h7 hl
    · have hr : ∀ x ∈ l :: r, ¬ x.2.1 ≤ t := fun x hx => by
        rcases List.mem_cons.mp hx with rfl | hx
        · exact hl
        · have := okL_all h7 x hx; omega
      have e : putIn (l :: r) (w, .int t, ln, an, sz) = (w, .int t, ln, an, sz) :: (l :: r).map liftL := by
        have f : ((l :: r).filter fun x => decide (x.2.1 ≤ t)) = [] := List.filter_eq_nil_iff.mpr fun x hx => by simpa using hr x hx
        simp only [putIn, atOf, f, List.length_nil, List.take_zero, List.drop_zero, List.map_nil, List.nil_append, List.singleton_append]
      rw [e]
      exact one ⟨h1, h2, h3, h4, h5, by omega, h7⟩ hst
/-- .. with another one -/
theorem put_no {many : Int} {w st ln an sz : D} (hst : ∀ t, st ≠ .int t) : ∀ {s : Int} {ls : List LkI}, okL many s ls → chkLooks many s (putIn ls (w, st, ln, an, sz)) = bad1 (w, st, ln, an, sz) many := by
  have hw : within st 0 200 = false := by
    cases st with
    | int t => exact absurd rfl (hst t)
    | bool b => simp [within, isInt, isBool]
    | _ => simp [within, isInt]
  have e : ∀ ls, putIn ls (w, st, ln, an, sz) = ls.map liftL ++ [(w, st, ln, an, sz)] := fun ls => by
    have : atOf ls st = ls.length := by
      cases st with
      | int t => exact absurd rfl (hst t)
      | _ => rfl
    simp [putIn, this]
  intro s ls
  rw [e]
  induction ls generalizing s with
  | nil =>
    intro _
    simp only [List.map_nil, List.nil_append]
    unfold chkLooks chkLook bad1 chkLooks
    simp only [hw, true_or, if_true]
    split
    · rename_i x hx; exact hx.symm
    · rename_i hx; split at hx <;> cases hx
  | cons l r ih =>
    intro h
    obtain ⟨h1, h2, h3, h4, h5, h6, h7⟩ := h
    rw [List.map_cons, List.cons_append]
    unfold chkLooks
    show (match chkLook (.int l.1) (.int l.2.1) (.int l.2.2.1) (.int l.2.2.2.1) (.int l.2.2.2.2) many s with | some e => some e | none => chkLooks many l.2.1 (r.map liftL ++ [(w, st, ln, an, sz)])) = _
    rw [chk_ok h1 h2 h3 h4 h5 h6]
    exact ih h7
theorem put_all {many s : Int} {look : Lk} {ls : List LkI} (h : okL many s ls) (h0 : s = 0) : chkLooks many s (putIn ls look) = bad1 look many := by
  obtain ⟨w, st, ln, an, sz⟩ := look
  cases st with
  | int t =>
    by_cases ht : s ≤ t
    · exact put_int h ht
    · -- a start below all: it stands first
      subst h0
      have hr : ∀ x ∈ ls, ¬ x.2.1 ≤ t := fun x hx => by have := okL_all h x hx; omega
      have e : putIn ls (w, .int t, ln, an, sz) = (w, .int t, ln, an, sz) :: ls.map liftL := by
        have f : (ls.filter fun x => decide (x.2.1 ≤ t)) = [] := List.filter_eq_nil_iff.mpr fun x hx => by simpa using hr x hx
        simp only [putIn, atOf, f, List.length_nil, List.take_zero, List.drop_zero, List.map_nil, List.nil_append, List.singleton_append]
      rw [e]
      have hw : within (.int t) 0 200 = false := by rw [within_i]; simp; omega
      unfold chkLooks chkLook bad1
      simp only [hw, true_or, if_true]
      split
      · rename_i x hx; exact hx.symm
      · rename_i hx; split at hx <;> cases hx
  | none => exact put_no (fun t z => by cases z) h
  | bool b => exact put_no (fun t z => by cases z) h
  | str x => exact put_no (fun t z => by cases z) h
  | list x => exact put_no (fun t z => by cases z) h
  | tuple x => exact put_no (fun t z => by cases z) h
  | dict x => exact put_no (fun t z => by cases z) h
theorem putIn_length (ls : List LkI) (look : Lk) : (putIn ls look).length = ls.length + 1 := by
  have := atOf_le ls look.2.1
  simp [putIn]; omega
/-- a sky that the check takes -/
structure OkSky (ls : List LkI) (ws : List Int) (es : List Er) (cap turn : Int) : Prop where
  ws1 : 1 ≤ ws.length ∧ ws.length ≤ 6
  ws2 : ∀ w ∈ ws, 0 ≤ w ∧ w ≤ 99
  ls1 : ls.length ≤ 16
  ls2 : okL ws.length 0 ls
  es1 : es.length ≤ 4
  es2 : okE 0 es
  cap : 1 ≤ cap ∧ cap ≤ 30
  turn : 1 ≤ turn ∧ turn ≤ 90
/-- what is told, as data -/
def toldD (ls : List LkI) (look : Lk) (ws : List D) (es : List Er) (cap turn : D) : D :=
  match chkSky (putIn ls look) ws es cap turn with
  | none => .tuple [.list ((putIn ls look).map encL), .list ws, .list (es.map encE), cap, turn]
  | some e => .str (wordW e)
theorem told_due {ls : List LkI} {ws : List Int} {es : List Er} {cap turn : Int} (h : OkSky ls ws es cap turn) (look : Lk) : toldD ls look (ws.map .int) es (.int cap) (.int turn) = dueD ls look (ws.map .int) es (.int cap) (.int turn) := by
  have a1 : ¬ ¬ (1 ≤ (ws.map PyData.int).length ∧ (ws.map PyData.int).length ≤ 6) := by rw [List.length_map]; have := h.ws1; omega
  have a2 : ¬ ((ws.map PyData.int).all fun d => within d 0 99) = false := by
    simp only [Bool.not_eq_false, List.all_eq_true, List.mem_map]
    rintro d ⟨x, hx, rfl⟩
    exact win (h.ws2 x hx)
  have a3 : chkLooks (ws.map PyData.int).length 0 (putIn ls look) = bad1 look (ws.map PyData.int).length := put_all (by rw [List.length_map]; exact h.ls2) rfl
  have a4 : ¬ 4 < es.length := by have := h.es1; omega
  have a5 : ¬ (within (.int cap) 1 30 = false ∨ within (.int turn) 1 90 = false) := by rw [win h.cap, win h.turn]; simp
  unfold toldD chkSky dueD
  rw [if_neg a1, if_neg a2, a3, if_neg a4, chkEars_ok h.es2, if_neg a5, putIn_length]
  by_cases hl : 15 < ls.length
  · rw [if_pos (by omega), if_pos hl]; rfl
  · rw [if_neg (by omega), if_neg hl]
    unfold bad1
    by_cases b1 : within look.1 0 ((ws.map PyData.int).length - 1 : Int) = false
    · simp only [if_pos b1]; rfl
    · by_cases b2 : within look.2.1 0 200 = false ∨ within look.2.2.1 1 20 = false
      · simp only [if_neg b1, if_pos b2]; rfl
      · by_cases b3 : within look.2.2.2.1 (-90) 90 = false ∨ within look.2.2.2.2 1 30 = false
        · simp only [if_neg b1, if_neg b2, if_pos b3]; rfl
        · simp only [if_neg b1, if_neg b2, if_neg b3]
/-! ### the law -/
theorem okL_of {many : Int} : ∀ {s : Int} {ls : List LkI}, (∀ l ∈ ls, LkIn many 200 l) → Asc s ls → okL many s ls
  | _, [], _, _ => trivial
  | s, l :: r, h, ⟨h1, h2⟩ => by
    obtain ⟨a, b, c, d, e⟩ := h l (by simp)
    exact ⟨by omega, by omega, by omega, by omega, by omega, h1, okL_of (fun x hx => h x (by simp [hx])) h2⟩
theorem okE_of : ∀ {s : Int} {es : List Er}, (∀ e ∈ es, (0 ≤ e.1 ∧ e.2.1 ≤ 20) ∧ (1 ≤ e.2.2 ∧ e.2.2 ≤ 3)) → AscE s es → okE s es
  | _, [], _, _ => trivial
  | s, e :: r, h, ⟨h1, h2, h3⟩ => by
    obtain ⟨⟨a, b⟩, c⟩ := h e (by simp)
    exact ⟨by omega, by omega, by omega, okE_of (fun x hx => h x (by simp [hx])) h3⟩
abbrev OkS (s : Sky0) : Prop := OkSky s.looks s.worths s.ears s.cap s.turn
theorem okS_of {s : Sky0} {most : Int} (h : DrawnS s most) (h2 : most ≤ 16) : OkS s := by
  have n1 := h.nl
  have n2 := h.nw
  refine ⟨by omega, fun w hw => ?_, by omega, okL_of (fun l hl => (h.lk l hl).mono (by omega)) h.as, by have := h.ne; omega, okE_of h.ea h.ae, by have := h.ca; omega, by have := h.tu; omega⟩
  have := h.wo w hw; omega
/-- a row of looks at 0, 1, .. -/
def rowL (n : Nat) : List LkI := (List.range n).map fun (k : Nat) => (0, (k : Int), 1, 0, 1)
theorem rowL_in {w : Int} (hw : 0 < w) {n : Nat} (hn : n ≤ 200) : ∀ l ∈ rowL n, LkIn w 200 l := fun l hl => by
  obtain ⟨k, hk, rfl⟩ := List.mem_map.mp hl
  have := List.mem_range.mp hk
  exact ⟨⟨Int.le_refl _, hw⟩, ⟨by dsimp only; omega, by dsimp only; omega⟩, ⟨by dsimp only; omega, by dsimp only; omega⟩, ⟨by dsimp only; omega, by dsimp only; omega⟩, ⟨by dsimp only; omega, by dsimp only; omega⟩⟩
theorem rowL_asc : ∀ n, Asc 0 (rowL n)
  | 0 => trivial
  | n + 1 => by
    unfold rowL
    rw [List.range_succ, List.map_append]
    refine asc_snoc (rowL_asc n) (fun x hx => ?_) (by dsimp only; omega)
    obtain ⟨k, hk, rfl⟩ := List.mem_map.mp hx
    have := List.mem_range.mp hk
    dsimp only; omega
theorem row_ok {s : Sky0} {most : Int} (h : DrawnS s most) {n : Nat} (hn : n ≤ 16) (h2 : most ≤ 16) : OkS { s with looks := rowL n } ∧ SmS { s with looks := rowL n } := by
  have a := okS_of h h2
  have b := h.sm (by omega)
  have n2 := h.nw
  refine ⟨⟨a.ws1, a.ws2, by simp [rowL]; exact hn, okL_of (rowL_in (by show (0 : Int) < (s.worths.length : Int); omega) (by omega)) (rowL_asc n), a.es1, a.es2, a.cap, a.turn⟩, ⟨fun l hl => ?_, b.wo, b.ea, b.ca, b.tu, by simp [rowL]; omega, b.nw, b.ne⟩⟩
  obtain ⟨k, hk, rfl⟩ := List.mem_map.mp hl
  have := List.mem_range.mp hk
  dsimp only; omega
/-- a field of a look that is put in -/
def okF (d : D) : Prop := d.canLay0 = true ∧ d.depth = 0
theorem okF_int (i : Int) : okF (.int i) := ⟨by simp [PyData.canLay0], by simp [PyData.depth]⟩
def okLk (l : Lk) : Prop := okF l.1 ∧ okF l.2.1 ∧ okF l.2.2.1 ∧ okF l.2.2.2.1 ∧ okF l.2.2.2.2
theorem encL_ok {l : Lk} (h : okLk l) : (encL l).canLay0 = true ∧ (encL l).depth ≤ 1 := by
  obtain ⟨⟨a1, b1⟩, ⟨a2, b2⟩, ⟨a3, b3⟩, ⟨a4, b4⟩, a5, b5⟩ := h
  refine ⟨by simp [encL, PyData.canLay0, PyData.canLayAll0, a1, a2, a3, a4, a5], by simp [encL, PyData.depth, PyData.depthAll, b1, b2, b3, b4, b5]⟩
theorem liftL_ok (l : LkI) : okLk (liftL l) := ⟨okF_int _, okF_int _, okF_int _, okF_int _, okF_int _⟩
theorem sky_shaped {ds ws es : List D} {cap turn : Int} (h1 : ∀ d ∈ ds, d.canLay0 = true ∧ d.depth ≤ 1) (h2 : ∀ d ∈ ws, d.canLay0 = true ∧ d.depth ≤ 1) (h3 : ∀ d ∈ es, d.canLay0 = true ∧ d.depth ≤ 1) :
    (PyData.canLay0 (.tuple [.list ds, .list ws, .list es, .int cap, .int turn]) = true) ∧ SeqAt.shaped (.tuple [.list ds, .list ws, .list es, .int cap, .int turn]) = true := by
  have c : ∀ {xs : List D}, (∀ d ∈ xs, d.canLay0 = true ∧ d.depth ≤ 1) → PyData.canLayAll0 xs = true ∧ PyData.depthAll xs ≤ 1 := fun h => ⟨canLayAll_of fun d hd => (h d hd).1, depthAll_le fun d hd => (h d hd).2⟩
  obtain ⟨a1, b1⟩ := c h1
  obtain ⟨a2, b2⟩ := c h2
  obtain ⟨a3, b3⟩ := c h3
  have k : PyData.canLay0 (.tuple [.list ds, .list ws, .list es, .int cap, .int turn]) = true := by simp [PyData.canLay0, PyData.canLayAll0, a1, a2, a3]
  refine ⟨k, ?_⟩
  simp only [SeqAt.shaped, Bool.and_eq_true, decide_eq_true_eq]
  refine ⟨k, ?_⟩
  simp only [PyData.depth, PyData.depthAll]
  omega
theorem lookD_ok (l : LkI) : (lookD l).canLay0 = true ∧ (lookD l).depth ≤ 1 := encL_ok (liftL_ok l)
theorem ints_ok {ws : List Int} : ∀ d ∈ ws.map PyData.int, d.canLay0 = true ∧ d.depth ≤ 1 := fun d hd => by
  obtain ⟨x, _, rfl⟩ := List.mem_map.mp hd
  exact ⟨by simp [PyData.canLay0], by simp [PyData.depth]⟩
theorem ears_ok {es : List Er} : ∀ d ∈ es.map encE, d.canLay0 = true ∧ d.depth ≤ 1 := fun d hd => by
  obtain ⟨x, _, rfl⟩ := List.mem_map.mp hd
  exact ⟨by simp [encE, PyData.canLay0, PyData.canLayAll0], by simp [encE, PyData.depth, PyData.depthAll]⟩
theorem put_ok {ls : List LkI} {look : Lk} (h : okLk look) : ∀ d ∈ (putIn ls look).map encL, d.canLay0 = true ∧ d.depth ≤ 1 := fun d hd => by
  obtain ⟨x, hx, rfl⟩ := List.mem_map.mp hd
  apply encL_ok
  simp only [putIn, List.mem_append, List.mem_map, List.mem_singleton] at hx
  rcases hx with (⟨y, _, rfl⟩ | rfl) | ⟨y, _, rfl⟩
  · exact liftL_ok y
  · exact h
  · exact liftL_ok y

section
variable {P : Program} {w : World} {K : PySem.W.Frag} {mg : Str → Option Value} {base : Heap}
abbrev lawN : List Str := ["_law_script", "_law_draws_here", "_law_sky_here", "_law_kept", "_law_look", "_law_told_here", "_law_good", "_law_looks", "_law_k", "_law_bad", "_law_n", "_law_place", "_law_menu"]
theorem sc_law : FnScope lawN ["_law_script"] (defScope (top 25)) := ⟨rfl, rfl, rfl, by decide +kernel, rfl, by decide +kernel, by decide +kernel⟩
/-- the good looks and the others -/
def LksOk (xs : List D) : Prop := ∃ ls : List Lk, xs = ls.map encL ∧ (∀ l ∈ ls, okLk l) ∧ ls.length ≤ 100
theorem law_fin (C4 : Callee P w K mg base 6 "_law_told" ["_law_sky_here", "_law_look"] S_told) (C5 : Callee P w K mg base 2 "_law_due" ["_law_sky_here", "_law_look"] S_due) (ns vs : List Int) (hlen : vs.length = 80)
    (X : Cx) [Cok 6 X] [Own X] [Is X P w K mg base] [Plain X] [Bd X lawN (defScope (top 25))] [Fnt X] [Gd X] {s : Sky0} (hs : OkS s) (hm : SmS s) (v1 v2 : Option RV) (a b c e f : Int) :
    Svb X [some (.fz (ns.map PyData.int)), some (.pu (.list (vs.map PyData.int))), some (.pu s.d), some (.pu (.str s.d.shown)), v1, v2, some (.pu (.tuple [.int a, .int b, .int c, .int e, .int f])), some (.ls [.tuple [.int a, .int b, .int c, .int e, .int f], .tuple [.int a, .int 200, .int 20, .int 90, .int 30], .tuple [.int a, .int 0, .int 1, .int (-90), .int 1]]), none, none, none, none, none]
      [(defBody (top 25)).drop 7] (Ends1 (.ok (.pu (.bool true)))) := by
  have hsm := hm.sm
  have hshw := hsm.shw (by decide) (by decide)
  have e1 := hs.ws1
  have e2 := hm.nl
  have e3 := hm.nw
  have e4 := hm.ne
  have hL : (s.looks.map lookD).length = s.looks.length := List.length_map ..
  have hW : (s.worths.map PyData.int).length = s.worths.length := List.length_map ..
  have hE : (s.ears.map earD).length = s.ears.length := List.length_map ..
  have hW0 : 0 < ((s.worths.map PyData.int).length : Int) := by omega
  refine svb_for (fun i ρ => ∃ (ls : List Lk), ∃ v8 v9 v10 v11 v12, ρ = [some (.fz (ns.map PyData.int)), some (.pu (.list (vs.map PyData.int))), some (.pu s.d), some (.pu (.str s.d.shown)), v1, v2, some (.pu (.tuple [.int a, .int b, .int c, .int e, .int f])), some (.ls (ls.map encL)), v8, v9, v10, v11, v12] ∧ (∀ l ∈ ls, okLk l) ∧ ls.length = 3 + i) (fun _ => False)
    (evi_r1 (j := 4) (by walk_at "dl evp") (plain _) (by decide) (by decide) (by walk_at "dl gl")) ⟨[(.int a, .int b, .int c, .int e, .int f), (.int a, .int 200, .int 20, .int 90, .int 30), (.int a, .int 0, .int 1, .int (-90), .int 1)], none, none, none, none, none, rfl, fun l hl => ?_, rfl⟩ ?_ ?_ (fun _ => rfl)
  · simp only [List.mem_cons, List.not_mem_nil, or_false] at hl
    rcases hl with rfl | rfl | rfl <;> exact ⟨okF_int _, okF_int _, okF_int _, okF_int _, okF_int _⟩
  · rintro k d ρ1 hi ⟨ls, v8, v9, v10, v11, v12, rfl, hls, hln⟩
    have hk : k < 4 := by
      have := (List.getElem?_eq_some_iff.mp hi).1
      rw [rangeD_length] at this
      exact this
    rw [rangeD_get (by exact hk)] at hi
    obtain rfl := Option.some.inj hi
    rw [Int.zero_add]
    refine ⟨_, _, by walk_at "dl tg", ?_⟩
    dsimp only [List.set]
    walk_at "dl set"
    have e60 := em (G vs (60 + (k : Int))) (m := 2) (by decide)
    refine svb_for (fun j ρ => ∃ (ds : List D), ∃ v10 v11 v12, ρ = [some (.fz (ns.map PyData.int)), some (.pu (.list (vs.map PyData.int))), some (.pu s.d), some (.pu (.str s.d.shown)), v1, v2, some (.pu (.tuple [.int a, .int b, .int c, .int e, .int f])), some (.ls (ls.map encL)), some (.pu (.int k)), some (.ls ds), v10, v11, v12] ∧ ds.length = 5 ∧ ∀ d ∈ ds, okF d) (fun _ => False)
      (evi_r1 (j := 1 + G vs (60 + (k : Int)) % 2) (by walk_at "dl evp") (plain _) (by omega) (by omega) (by walk_at "dl gl")) ⟨[.int a, .int b, .int c, .int e, .int f], v10, v11, v12, rfl, rfl, fun d hd => ?_⟩ ?_ ?_ (fun _ => rfl)
    · simp only [List.mem_cons, List.not_mem_nil, or_false] at hd
      rcases hd with rfl | rfl | rfl | rfl | rfl <;> exact okF_int _
    · rintro n d ρ1 hi ⟨ds, u10, u11, u12, rfl, hdl, hds⟩
      have hn : (n : Int) < 1 + G vs (60 + (k : Int)) % 2 := by
        have := (List.getElem?_eq_some_iff.mp hi).1
        rw [rangeD_length] at this
        omega
      rw [rangeD_get (by omega)] at hi
      obtain rfl := Option.some.inj hi
      rw [Int.zero_add]
      refine ⟨_, _, by walk_at "dl tg", ?_⟩
      dsimp only [List.set]
      have ep := em (G vs (64 + 2 * (k : Int) + (n : Int))) (m := 5) (by decide)
      obtain ⟨p, hp⟩ := Int.eq_ofNat_of_zero_le ep.1
      have hp5 : p < 5 := by omega
      walk_at "dl set"
      rw [hp]
      have eq := em (G vs (72 + (k : Int))) (m := 4) (by decide)
      obtain ⟨q, hq⟩ := Int.eq_ofNat_of_zero_le eq.1
      have hq4 : q < 4 := by omega
      obtain ⟨ms, hms, hml, hmo⟩ : ∃ ms : List D, ([.list [.int ((s.worths.map PyData.int).length : Int), .int (-1), .none, .bool true], .list [.int 201, .int (-1), .bool true, .str "3"], .list [.int 0, .int 21, .bool true, .none], .list [.int 91, .int (-91), .bool true, .none], .list [.int 0, .int 31, .bool true, .str "1"]] : List D)[p]? = some (.list ms) ∧ ms.length = 4 ∧ ∀ m ∈ ms, okF m := by
        have oN : okF .none := ⟨by simp [PyData.canLay0], by simp [PyData.depth]⟩
        have oT : okF (.bool true) := ⟨by simp [PyData.canLay0], by simp [PyData.depth]⟩
        have o3 : okF (.str "3") := ⟨by decide +kernel, by simp [PyData.depth]⟩
        have o1 : okF (.str "1") := ⟨by decide +kernel, by simp [PyData.depth]⟩
        have all4 : ∀ {x y z u : D}, okF x → okF y → okF z → okF u → ∀ m ∈ [x, y, z, u], okF m := fun h1 h2 h3 h4 m hm => by
          simp only [List.mem_cons, List.not_mem_nil, or_false] at hm
          rcases hm with rfl | rfl | rfl | rfl <;> assumption
        match p, hp5 with
        | 0, _ => exact ⟨_, rfl, rfl, all4 (okF_int _) (okF_int _) oN oT⟩
        | 1, _ => exact ⟨_, rfl, rfl, all4 (okF_int _) (okF_int _) oT o3⟩
        | 2, _ => exact ⟨_, rfl, rfl, all4 (okF_int _) (okF_int _) oT oN⟩
        | 3, _ => exact ⟨_, rfl, rfl, all4 (okF_int _) (okF_int _) oT oN⟩
        | 4, _ => exact ⟨_, rfl, rfl, all4 (okF_int _) (okF_int _) oT o1⟩
      refine svbSet (r := .pu (.list ms)) (by walk_at "dl nl") (ev_ixl (i := (p : Int)) (by unfold Sky0.d; walk_at "dl evl") (by walk_at "dl evp") (by rw [DL.atI_nat]; exact hms)) ?_ (by simp) rfl
      dsimp only [List.set]
      have hqm : q < ms.length := by omega
      refine svbSetIx (i := 9) (d := ms[q]) (by walk_at "dl nm") rfl (ev_ixl (i := G vs (72 + (k : Int)) % 4) (by walk_at "dl evl") (by walk_at "dl evp") (by rw [hq]; exact DL.atI_nat.trans (List.getElem?_eq_getElem hqm))) (by walk_at "dl evp") (ixN_nat (by omega)) ?_
      refine svb_nil (svb_end ⟨ds.set p ms[q], _, _, _, rfl, by simp [hdl], fun d hd => ?_⟩)
      rcases List.mem_or_eq_of_mem_set hd with h | h
      · exact hds d h
      · rw [h]; exact hmo _ (List.getElem_mem hqm)
    · rintro ρ' (⟨ds, u10, u11, u12, rfl, hdl, hds⟩ | h)
      case inr => exact h.elim
      match ds, hdl, hds with
      | [x1, x2, x3, x4, x5], _, hds =>
        have hll : (ls.map encL).length ≤ 10 := by rw [List.length_map]; omega
        walk_at "dl app"
        refine svb_nil (svb_end ⟨ls ++ [(x1, x2, x3, x4, x5)], _, _, _, _, _, by simp only [List.map_append, List.map_cons, List.map_nil]; rfl, fun l hl => ?_, by simp; omega⟩)
        rcases List.mem_append.mp hl with h | h
        · exact hls l h
        · simp only [List.mem_singleton] at h
          subst h
          exact ⟨hds _ (by simp), hds _ (by simp), hds _ (by simp), hds _ (by simp), hds _ (by simp)⟩
  rintro ρ' (⟨ls, v8, v9, v10, v11, v12, rfl, hls, hln⟩ | h)
  case inr => exact h.elim
  refine svb_fz 7 rfl ?_
  dsimp only [List.set]
  have hkept : ∀ (ρ1 : List (Option RV)) (e1 e2 : Expr) (pos : Pos), EvP X ρ1 e1 (.str s.d.shown) → EvP X ρ1 e2 (.str s.d.shown) → behindInMarks .NotEq e2 = false → EvT X ρ1 (.Compare e1 [.NotEq] [e2] pos) false := fun ρ1 e1 e2 pos h1 h2 h3 => EvT.is (evtC h1 h2 r_neS h3) (by simp)
  refine svb_for (fun i ρ => ∃ u4 u5, ρ = [some (.fz (ns.map PyData.int)), some (.pu (.list (vs.map PyData.int))), some (.pu s.d), some (.pu (.str s.d.shown)), u4, u5, some (.pu (.tuple [.int a, .int b, .int c, .int e, .int f])), some (.pu (.list (ls.map encL))), v8, v9, v10, v11, v12]) (fun _ => False)
    (by walk_at "dl evi") ⟨v1, v2, rfl⟩ ?_ ?_ (fun _ => rfl)
  · rintro i d ρ1 hi ⟨u4, u5, rfl⟩
    rw [List.getElem?_map] at hi
    obtain ⟨l, hl, rfl⟩ := Option.map_eq_some_iff.mp hi
    have hlo : okLk l := hls l (List.mem_of_getElem? hl)
    refine ⟨_, _, by walk_at "dl tg", ?_⟩
    dsimp only [List.set]
    have htd := told_due hs l
    cases hq : chkSky (putIn s.looks l) (s.worths.map PyData.int) s.ears (.int s.cap) (.int s.turn) with
    | none =>
      have hA := sky_shaped (ds := (putIn s.looks l).map encL) (ws := s.worths.map PyData.int) (es := s.ears.map encE) (cap := s.cap) (turn := s.turn) (put_ok hlo) ints_ok ears_ok
      have hdue : dueD s.looks l (s.worths.map PyData.int) s.ears (.int s.cap) (.int s.turn) = .tuple [.list ((putIn s.looks l).map encL), .list (s.worths.map PyData.int), .list (s.ears.map encE), .int s.cap, .int s.turn] := by
        rw [← htd]; unfold toldD; rw [hq]
      refine svbSet (r := .tp [.ls ((putIn s.looks l).map encL), .ls (s.worths.map PyData.int), .ls (s.ears.map encE), .pu (.int s.cap), .pu (.int s.turn)]) (by walk_at "dl nl") ?_ ?_ (by simp) rfl
      · exact evF C4 (args := [.pu s.d, .pu (encL l)]) (by walk_at "dl evas") ⟨s.looks, l, s.worths.map PyData.int, s.ears, .int s.cap, .int s.turn, rfl, by rw [hq], by omega⟩ (by walk_at "dl ng") (by decide) rfl
      dsimp only [List.set]
      refine svb_if (t := false || false) (EvW.t (evw_or ?_ fun _ => evw_or1 (hkept _ _ _ _ (evRepr (by walk_at "dl evp") hshw rfl (by walk_at "dl ng") rfl) (by walk_at "dl evp") (nomark _)))) (fun h => by cases h) (fun _ => svb_nil ?_)
      · refine EvT.is (evtC (y := .tuple [.list ((putIn s.looks l).map encL), .list (s.worths.map PyData.int), .list (s.ears.map encE), .int s.cap, .int s.turn]) (z := .tuple [.list ((putIn s.looks l).map encL), .list (s.worths.map PyData.int), .list (s.ears.map encE), .int s.cap, .int s.turn]) (EvP.is (evpNt (i := 5) (by walk_at "dl nm") rfl) rfl) (Ev.pp ?_) (r_ne hA.2 hA.2) (nomark _)) (by rw [PySem.SeqAt.eqv_refl _ hA.1]; rfl)
        exact evF C5 (args := [.pu s.d, .pu (encL l)]) (by walk_at "dl evas") ⟨s.looks, l, s.worths.map PyData.int, s.ears, .int s.cap, .int s.turn, rfl, by rw [hdue], by omega⟩ (by walk_at "dl ng") (by decide) rfl
      refine svb_if (t := true) (EvT.is (EvP.t (evIsTup (evpNt (i := 5) (by walk_at "dl nm") rfl) (by walk_at "dl ng") (by walk_at "dl ng") rfl)) rfl) (fun _ => ?_) (fun h => by cases h)
      have hpl := putIn_length s.looks l
      have hE' : (s.ears.map encE).length = s.ears.length := List.length_map ..
      refine svbTpApp (i := 5) (j := 0) (by walk_at "dl nm") rfl rfl (by walk_at "dl ev") (by walk_at "dl szl") ?_ rfl rfl
      dsimp only [List.set]
      refine svbTpApp (i := 5) (j := 1) (by walk_at "dl nm") rfl rfl (by walk_at "dl ev") (by walk_at "dl szl") ?_ rfl rfl
      dsimp only [List.set]
      refine svbTpApp (i := 5) (j := 2) (by walk_at "dl nm") rfl rfl (by walk_at "dl ev") (by walk_at "dl szl") ?_ rfl rfl
      dsimp only [List.set]
      exact svb_nil (svb_nil (svb_end ⟨_, _, rfl⟩))
    | some u =>
      have hdue : dueD s.looks l (s.worths.map PyData.int) s.ears (.int s.cap) (.int s.turn) = .str (wordW u) := by
        rw [← htd]; unfold toldD; rw [hq]
      have hA : PyData.canLay0 (.str (wordW u)) = true ∧ SeqAt.shaped (.str (wordW u)) = true := by cases u <;> exact ⟨by decide +kernel, by decide +kernel⟩
      refine svbSet (r := .pu (.str (wordW u))) (by walk_at "dl nl") ?_ ?_ (by simp) rfl
      · exact evF C4 (args := [.pu s.d, .pu (encL l)]) (by walk_at "dl evas") ⟨s.looks, l, s.worths.map PyData.int, s.ears, .int s.cap, .int s.turn, rfl, by rw [hq], by omega⟩ (by walk_at "dl ng") (by decide) rfl
      dsimp only [List.set]
      refine svb_if (t := false || false) (EvW.t (evw_or ?_ fun _ => evw_or1 (hkept _ _ _ _ (evRepr (by walk_at "dl evp") hshw rfl (by walk_at "dl ng") rfl) (by walk_at "dl evp") (nomark _)))) (fun h => by cases h) (fun _ => svb_nil ?_)
      · refine EvT.is (evtC (y := .str (wordW u)) (z := .str (wordW u)) (by walk_at "dl evp") (Ev.pp ?_) (r_ne hA.2 hA.2) (nomark _)) (by rw [PySem.SeqAt.eqv_refl _ hA.1]; rfl)
        exact evF C5 (args := [.pu s.d, .pu (encL l)]) (by walk_at "dl evas") ⟨s.looks, l, s.worths.map PyData.int, s.ears, .int s.cap, .int s.turn, rfl, by rw [hdue], by omega⟩ (by walk_at "dl ng") (by decide) rfl
      refine svb_if (t := false) (EvT.is (EvP.t (evIsTup (d := .str (wordW u)) (by walk_at "dl evp") (by walk_at "dl ng") (by walk_at "dl ng") rfl)) rfl) (fun h => by cases h) (fun _ => svb_nil (svb_nil (svb_end ⟨_, _, rfl⟩)))
  rintro ρ' (⟨u4, u5, rfl⟩ | h)
  case inr => exact h.elim
  exact svb_ret (r := .pu (.bool true)) (EvP.i (EvP.is (evC (evRepr (by walk_at "dl evp") hshw rfl (by walk_at "dl ng") rfl) (by walk_at "dl evp") r_eqS (nomark _)) (by simp)) rfl) rfl
theorem law_walk (C1 : Callee P w K mg base 1 "_law_draws" ["_law_script", "_law_count"] S_draws) (C2 : Callee P w K mg base 1 "_law_sky" ["_law_draws_here", "_law_most"] S_sky) (C3 : Callee P w K mg base 2 "without_look" ["sky", "look"] S_without_look)
    (C4 : Callee P w K mg base 6 "_law_told" ["_law_sky_here", "_law_look"] S_told) (C5 : Callee P w K mg base 2 "_law_due" ["_law_sky_here", "_law_look"] S_due) (ns : List Int) (hns : ns.length ≤ 63)
    (X : Cx) [Cok 6 X] [Own X] [Is X P w K mg base] [Plain X] [Bd X lawN (defScope (top 25))] [Fnt X] [Gd X] : Svb X (some (.fz (ns.map PyData.int)) :: List.replicate (lawN.length - 1) none) [defBody (top 25)] (Ends1 (.ok (.pu (.bool true)))) := by
  show Svb _ [some (.fz (ns.map PyData.int)), none, none, none, none, none, none, none, none, none, none, none, none] _ _
  obtain ⟨vs, hvs⟩ : ∃ vs, vs = drawsF ns 80 := ⟨_, rfl⟩
  have hlen : vs.length = 80 := by rw [hvs]; exact drawsF_length ns 80
  refine svbSet (r := .ls (vs.map PyData.int)) (by walk_at "dl nl") ?_ ?_ (by simp) rfl
  · exact evF C1 (args := [.fz (ns.map PyData.int), .pu (.int 80)]) (by walk_at "dl evas") ⟨ns, 80, rfl, by rw [hvs], hns, by omega⟩ (by walk_at "dl ng") (by decide) rfl
  refine svb_fz 1 rfl ?_
  dsimp only [List.set]
  refine svbSet (r := .pu (skyF vs 6).d) (by walk_at "dl nl") ?_ ?_ (by simp) rfl
  · exact evF C2 (args := [.pu (.list (vs.map PyData.int)), .pu (.int 6)]) (by walk_at "dl evas") ⟨vs, 6, rfl, rfl, by decide, by decide, by omega⟩ (by walk_at "dl ng") (by decide) rfl
  dsimp only [List.set]
  have hd := drawn (vs := vs) (most := 6) (by decide)
  refine svbIfJ (fun ρ => ∃ s : Sky0, ρ = [some (.fz (ns.map PyData.int)), some (.pu (.list (vs.map PyData.int))), some (.pu s.d), none, none, none, none, none, none, none, none, none, none] ∧ OkS s ∧ SmS s) (by walk_at "dl evt") (fun h => ?_) (fun h => ?_) ?_
  · have e51 := em (G vs 51) (m := 2) (by decide)
    refine svbSet (r := .pu (Sky0.d { skyF vs 6 with looks := rowL (15 + G vs 51 % 2).toNat })) (by walk_at "dl nl") ?_ ?_ (by simp) rfl
    · refine Ev.is (evTup (evu_cons (Ev.fz (evLcT (xs := List.range (15 + G vs 51 % 2).toNat) (enc := fun (i : Nat) => PyData.int (0 + (i : Int))) [("_law_k", 8)] (fun i => some (.tuple [.int 0, .int (0 + (i : Int)), .int 1, .int 0, .int 1])) (evi_r1 (j := 15 + G vs 51 % 2) (by walk_at "dl evp") (plain _) (by omega) (by omega) (by walk_at "dl gl")) (by decide +kernel) (fun i hi => ?_) ?_ fun _ => rfl))
        (evu_cons (d := .list ((skyF vs 6).worths.map .int)) ?_ (evu_cons (d := .list ((skyF vs 6).ears.map earD)) ?_ (evu_cons (d := .int (skyF vs 6).cap) ?_ (evu_cons (d := .int (skyF vs 6).turn) ?_ evu_nil))))) (small (by simp))) ?_
      · walk_at "dl lci"
      · exact small (by simp; omega)
      · unfold Sky0.d; walk_at "dl ev"
      · unfold Sky0.d; walk_at "dl ev"
      · unfold Sky0.d; walk_at "dl ev"
      · unfold Sky0.d; walk_at "dl ev"
      · simp only [fm_some, Int.zero_add, Sky0.d, rowL, List.map_map]
        rfl
    · obtain ⟨a, b⟩ := row_ok hd (n := (15 + G vs 51 % 2).toNat) (by omega) (by decide)
      exact svb_nil (svb_end ⟨_, rfl, a, b⟩)
  · exact svb_nil (svb_end ⟨_, rfl, okS_of hd (by decide), hd.sm (by decide)⟩)
  rintro ρ' ⟨s, rfl, hs, hm⟩
  have hsm := hm.sm
  have hshw := hsm.shw (by decide) (by decide)
  refine svbSet (r := .pu (.str s.d.shown)) (by walk_at "dl nl") (EvP.i (evRepr (by walk_at "dl evp") hshw rfl (by walk_at "dl ng") rfl) rfl) ?_ (by simp) rfl
  dsimp only [List.set]
  have e1 := hs.ws1
  have e2 := hm.nl
  have e3 := hm.nw
  have e4 := hm.ne
  have hL : (s.looks.map lookD).length = s.looks.length := List.length_map ..
  have hW : (s.worths.map PyData.int).length = s.worths.length := List.length_map ..
  have hE : (s.ears.map earD).length = s.ears.length := List.length_map ..
  refine svb_for (fun i ρ => ∃ v1 v2, ρ = [some (.fz (ns.map PyData.int)), some (.pu (.list (vs.map PyData.int))), some (.pu s.d), some (.pu (.str s.d.shown)), v1, v2, none, none, none, none, none, none, none]) (fun _ => False)
    (evi_r1 (j := ((s.looks.map lookD).length : Int)) (by unfold Sky0.d; walk_at "dl evp") (plain _) (by omega) (by omega) (by walk_at "dl gl")) ⟨none, none, rfl⟩ ?_ ?_ (fun _ => rfl)
  · rintro i d ρ1 hi ⟨v1, v2, rfl⟩
    have hin : i < s.looks.length := by
      have := (List.getElem?_eq_some_iff.mp hi).1
      rw [rangeD_length] at this
      omega
    rw [rangeD_get (by omega)] at hi
    obtain rfl := Option.some.inj hi
    rw [Int.zero_add]
    refine ⟨_, _, by walk_at "dl tg", ?_⟩
    dsimp only [List.set]
    have ha := sky_shaped (ds := (s.looks.map lookD).take i ++ (s.looks.map lookD).drop (i + 1)) (ws := s.worths.map PyData.int) (es := s.ears.map earD) (cap := s.cap) (turn := s.turn) (fun d hd => by
      have : d ∈ s.looks.map lookD := by
        rcases List.mem_append.mp hd with h | h
        · exact List.mem_of_mem_take h
        · exact List.mem_of_mem_drop h
      obtain ⟨l, _, rfl⟩ := List.mem_map.mp this
      exact lookD_ok l) ints_ok ears_ok
    refine svbSet (r := .tp [.ls ((s.looks.map lookD).take i ++ (s.looks.map lookD).drop (i + 1)), .ls (s.worths.map PyData.int), .ls (s.ears.map earD), .pu (.int s.cap), .pu (.int s.turn)]) (by walk_at "dl nl") ?_ ?_ (by simp) rfl
    · exact evF C3 (args := [.pu s.d, .pu (.int i)]) (by walk_at "dl evas") ⟨_, _, _, _, _, i, rfl, rfl, by omega, by omega⟩ (by walk_at "dl ng") (by decide) rfl
    dsimp only [List.set]
    refine svb_if (t := false) (EvT.is (evtC (y := .tuple [.list ((s.looks.map lookD).take i ++ (s.looks.map lookD).drop (i + 1)), .list (s.worths.map PyData.int), .list (s.ears.map earD), .int s.cap, .int s.turn]) (z := .tuple [.list ((s.looks.map lookD).take i ++ (s.looks.map lookD).drop (i + 1)), .list (s.worths.map PyData.int), .list (s.ears.map earD), .int s.cap, .int s.turn])
      ?_ ?_ (r_ne ha.2 ha.2) (nomark _)) (by rw [PySem.SeqAt.eqv_refl _ ha.1]; rfl)) (fun h => by cases h) (fun _ => svb_nil ?_)
    · exact EvP.is (evpNt (i := 5) (by walk_at "dl nm") rfl) rfl
    · rw [← cutD_take (xs := s.looks.map lookD) (n := i) (by omega), ← cutD_drop1 (xs := s.looks.map lookD) (n := i) (by omega)]
      unfold Sky0.d
      walk_at "dl evp"
    refine svbTpApp (i := 5) (j := 0) (by walk_at "dl nm") rfl rfl (by walk_at "dl ev") (by walk_at "dl szl") ?_ rfl rfl
    dsimp only [List.set]
    refine svbTpApp (i := 5) (j := 1) (by walk_at "dl nm") rfl rfl (by walk_at "dl ev") (by walk_at "dl szl") ?_ rfl rfl
    dsimp only [List.set]
    refine svbTpApp (i := 5) (j := 2) (by walk_at "dl nm") rfl rfl (by walk_at "dl ev") (by walk_at "dl szl") ?_ rfl rfl
    dsimp only [List.set]
    exact svb_nil (svb_end ⟨_, _, rfl⟩)
  rintro ρ' (⟨v1, v2, rfl⟩ | h)
  case inr => exact h.elim
  have hW0 : 0 < ((s.worths.map PyData.int).length : Int) := by omega
  walk_at "dl set"
  walk_at "dl set"
  obtain ⟨a, ha⟩ : ∃ a : Int, a = G vs 52 % ((s.worths.map PyData.int).length : Int) := ⟨_, rfl⟩
  obtain ⟨b, hb⟩ : ∃ b : Int, b = G vs 53 % 18 := ⟨_, rfl⟩
  obtain ⟨c, hc⟩ : ∃ c : Int, c = 1 + G vs 54 % 20 := ⟨_, rfl⟩
  obtain ⟨e, he⟩ : ∃ e : Int, e = G vs 55 % 181 - 90 := ⟨_, rfl⟩
  obtain ⟨f, hf⟩ : ∃ f : Int, f = 1 + G vs 56 % 30 := ⟨_, rfl⟩
  rw [← ha, ← hb, ← hc, ← he, ← hf]
  exact law_fin C4 C5 ns vs hlen X hs hm v1 v2 a b c e f
end
section
variable {P : Program} {w : World} {K : PySem.W.Frag} {mg : Str → Option Value}
theorem errs_of (a1 : ∃ C S, ErrB P K mg "BadSize" C S) (a2 : ∃ C S, ErrB P K mg "BadNumber" C S) (a3 : ∃ C S, ErrB P K mg "BadWish" C S) (a4 : ∃ C S, ErrB P K mg "BadTime" C S) : ∃ E S, Errs P K mg E ∧ ErrF K mg E S := by
  obtain ⟨C1, S, A1⟩ := a1
  obtain ⟨C2, S2, A2⟩ := a2
  obtain ⟨C3, S3, A3⟩ := a3
  obtain ⟨C4, S4, A4⟩ := a4
  obtain rfl : S = S2 := Value.ref.inj (Option.some.inj (A1.mgS.symm.trans A2.mgS))
  obtain rfl : S = S3 := Value.ref.inj (Option.some.inj (A1.mgS.symm.trans A3.mgS))
  obtain rfl : S = S4 := Value.ref.inj (Option.some.inj (A1.mgS.symm.trans A4.mgS))
  have n12 := A1.apart A2 (by decide +kernel)
  have n13 := A1.apart A3 (by decide +kernel)
  have n14 := A1.apart A4 (by decide +kernel)
  have n23 := A2.apart A3 (by decide +kernel)
  have n24 := A2.apart A4 (by decide +kernel)
  have n34 := A3.apart A4 (by decide +kernel)
  refine ⟨fun u => match u with | .size => C1 | .number => C2 | .wish => C3 | .time => C4, S, ⟨fun u => ?_, fun u => ?_⟩, ⟨fun u => ?_, fun u => ?_, fun u => ?_, fun u v => ?_, fun u v e => ?_, A1.mgS⟩⟩
  · cases u with
    | size => exact A1.at_
    | number => exact A2.at_
    | wish => exact A3.at_
    | time => exact A4.at_
  · cases u with
    | size => exact A1.mg_
    | number => exact A2.mg_
    | wish => exact A3.mg_
    | time => exact A4.mg_
  · cases u with
    | size => exact A1.cl
    | number => exact A2.cl
    | wish => exact A3.cl
    | time => exact A4.cl
  · cases u with
    | size => exact A1.kS
    | number => exact A2.kS
    | wish => exact A3.kS
    | time => exact A4.kS
  · cases u with
    | size => exact A1.kV
    | number => exact A2.kV
    | wish => exact A3.kV
    | time => exact A4.kV
  · cases u <;> cases v
    · exact A1.exm A1
    · exact A1.exm A2
    · exact A1.exm A3
    · exact A1.exm A4
    · exact A2.exm A1
    · exact A2.exm A2
    · exact A2.exm A3
    · exact A2.exm A4
    · exact A3.exm A1
    · exact A3.exm A2
    · exact A3.exm A3
    · exact A3.exm A4
    · exact A4.exm A1
    · exact A4.exm A2
    · exact A4.exm A3
    · exact A4.exm A4
  · cases u <;> cases v <;> first | rfl | exact absurd e n12 | exact absurd e n13 | exact absurd e n14 | exact absurd e n23 | exact absurd e n24 | exact absurd e n34 | exact absurd e.symm n12 | exact absurd e.symm n13 | exact absurd e.symm n14 | exact absurd e.symm n23 | exact absurd e.symm n24 | exact absurd e.symm n34
abbrev Df (K : PySem.W.Frag) (mg : Str → Option Value) (x : Str) (i : Nat) : Prop := ∃ f fd, L2.Fun K x x (top i) f fd ∧ mg x = some (.ref f)
theorem all_of (hp : ∀ x, x ∈ bnames → mg x = none) (a1 : ∃ C S, ErrB P K mg "BadSize" C S) (a2 : ∃ C S, ErrB P K mg "BadNumber" C S) (a3 : ∃ C S, ErrB P K mg "BadWish" C S) (a4 : ∃ C S, ErrB P K mg "BadTime" C S)
    (i1 : ∃ t, mg "MOST_LOOKS" = some (.int 16 t)) (i2 : ∃ t, mg "MOST_WISHES" = some (.int 6 t)) (i3 : ∃ t, mg "MOST_EARS" = some (.int 4 t)) (i4 : ∃ t, mg "LAST" = some (.int 200 t))
    (d1 : Df K mg "is_within" 11) (d2 : Df K mg "check_look" 12) (d3 : Df K mg "check_ear" 13) (d4 : Df K mg "check_sky" 14) (d5 : Df K mg "with_looks" 16) (d6 : Df K mg "without_look" 17) (d7 : Df K mg "with_look" 18)
    (d8 : Df K mg "_law_draws" 20) (d9 : Df K mg "_law_sky" 21) (d10 : Df K mg "_law_told" 22) (d11 : Df K mg "_law_is_within" 23) (d12 : Df K mg "_law_due" 24) :
    ∀ (ns : List Int), ns.length ≤ 63 → ∀ (base : Heap), Mod K mg base → ∀ (X : Cx) [Cok 6 X] [Own X] [Is X P w K mg base] [Plain X] [Bd X lawN (defScope (top 25))] [Fnt X] [Gd X], Svb X (some (.fz (ns.map PyData.int)) :: List.replicate (lawN.length - 1) none) [defBody (top 25)] (Ends1 (.ok (.pu (.bool true)))) := by
  obtain ⟨E, S, T, TF⟩ := errs_of a1 a2 a3 a4
  obtain ⟨f1, g1, F1, m1⟩ := d1
  obtain ⟨f2, g2, F2, m2⟩ := d2
  obtain ⟨f3, g3, F3, m3⟩ := d3
  obtain ⟨f4, g4, F4, m4⟩ := d4
  obtain ⟨f5, g5, F5, m5⟩ := d5
  obtain ⟨f6, g6, F6, m6⟩ := d6
  obtain ⟨f7, g7, F7, m7⟩ := d7
  obtain ⟨f8, g8, F8, m8⟩ := d8
  obtain ⟨f9, g9, F9, m9⟩ := d9
  obtain ⟨f10, g10, F10, m10⟩ := d10
  obtain ⟨f11, g11, F11, m11⟩ := d11
  obtain ⟨f12, g12, F12, m12⟩ := d12
  intro ns hns base hM X _ _ _ _ _ _ _
  have C1 := ok_is_within (P := P) (w := w) (base := base) F1 m1 hp
  have C2 := ok_check_look (P := P) (w := w) (base := base) F2 m2 hp T C1 i4
  have C3 := ok_check_ear (P := P) (w := w) (base := base) F3 m3 hp T C1 i4
  have C4 := ok_check_sky (P := P) (w := w) (base := base) F4 m4 hp T C1 C2 C3 i1 i2 i3
  have C5 := ok_with_looks (P := P) (w := w) (base := base) F5 m5 hp
  have C6 := ok_without_look (P := P) (w := w) (base := base) F6 m6 hp C5
  have C7 := ok_with_look (P := P) (w := w) (base := base) F7 m7 hp C5 C4
  have C8 := ok_draws (P := P) (w := w) (base := base) F8 m8 hp
  have C9 := ok_sky (P := P) (w := w) (base := base) F9 m9 hp
  have C10 := ok_told (P := P) (w := w) (base := base) F10 m10 hp T TF C7
  have C11 := ok_l_within (P := P) (w := w) (base := base) F11 m11 hp
  have C12 := ok_due (P := P) (w := w) (base := base) F12 m12 hp C11
  exact law_walk C8 C9 C6 C10 C12 ns hns X
theorem law_binds {f : Addr} {fd : FuncData} (F : L2.Fun K "law" "law" (top 25) f fd) : ∀ (s : Shared) (u : Value), BindsTo s fd ⟨[u], []⟩ [("_law_script", u)] := fun s u => by
  obtain ⟨oc, od, kV, doc, pm, an, cdv, ct, osl, rfl, lk, hcd⟩ := F.ex
  exact .of_eq rfl
end
end K71

open PySem PySem.W PyProof.Rows in
set_option maxRecDepth 100000 in
set_option maxHeartbeats 0 in
theorem PySem.Challenge.cw_skypasses_k71_looks_put_in_and_out_holds : PySem.Challenge.rw_skypasses_k71_looks_put_in_and_out.Holds := by
  w_on; o_law; k_head; (case hw => w_witness2)
  k_fill
  refine DL.walk_here (l := PySem.Challenge.rw_skypasses_k71_looks_put_in_and_out) (k := 6) (st := K71.top 25) (N := K71.lawN) (x := "_law_script") rfl rfl ⟨rfl, by decide, by decide⟩ K71.sc_law (fun w h Y => PySem.W.kIn_of Y) ?F
  case F =>
    intro w mg fa h KX G hmg
    obtain ⟨f, fd, FL, mL⟩ := DL.fun_of (x := "law") (qual := "law") (st := K71.top 25) KX G (by k_is) (by k_is) (by k_is) (by k_is)
    obtain rfl : fa = f := Value.ref.inj (Option.some.inj (hmg.symm.trans mL))
    have hp := DL.plain_of (mg := mg) KX G (fun x hx => by
      simp only [DL.bnames, List.mem_cons, List.not_mem_nil, or_false] at hx
      rcases hx with rfl | rfl | rfl | rfl | rfl | rfl | rfl | rfl | rfl | rfl | rfl | rfl | rfl | rfl | rfl | rfl | rfl | rfl | rfl | rfl | rfl | rfl | rfl | rfl
      all_goals k_is)
    have e_BadSize := DL.err_of (P := PySem.Challenge.rw_skypasses_k71_looks_put_in_and_out.prog) (mg := mg) (x := "BadSize") (st := L2.inClass (K71.top 2) 0) KX G (by k_is) (by k_is) (by k_is) (by ks_is) (by k_is) (by k_is) (by k_is) (by k_is) (by k_is) (by k_is) (by k_is) (by k_is) rfl rfl rfl rfl (by k_is) (by k_is) (by k_is) rfl (by first | rfl | decide +kernel) (by k_is) (by first | rfl | decide +kernel) (by k_is) (by k_is) (by k_is) (by k_is) (by k_is) (by k_is) (by k_is) (by kit_is) (by kit_is) (by decide)
    have e_BadNumber := DL.err_of (P := PySem.Challenge.rw_skypasses_k71_looks_put_in_and_out.prog) (mg := mg) (x := "BadNumber") (st := L2.inClass (K71.top 3) 0) KX G (by k_is) (by k_is) (by k_is) (by ks_is) (by k_is) (by k_is) (by k_is) (by k_is) (by k_is) (by k_is) (by k_is) (by k_is) rfl rfl rfl rfl (by k_is) (by k_is) (by k_is) rfl (by first | rfl | decide +kernel) (by k_is) (by first | rfl | decide +kernel) (by k_is) (by k_is) (by k_is) (by k_is) (by k_is) (by k_is) (by k_is) (by kit_is) (by kit_is) (by decide)
    have e_BadWish := DL.err_of (P := PySem.Challenge.rw_skypasses_k71_looks_put_in_and_out.prog) (mg := mg) (x := "BadWish") (st := L2.inClass (K71.top 4) 0) KX G (by k_is) (by k_is) (by k_is) (by ks_is) (by k_is) (by k_is) (by k_is) (by k_is) (by k_is) (by k_is) (by k_is) (by k_is) rfl rfl rfl rfl (by k_is) (by k_is) (by k_is) rfl (by first | rfl | decide +kernel) (by k_is) (by first | rfl | decide +kernel) (by k_is) (by k_is) (by k_is) (by k_is) (by k_is) (by k_is) (by k_is) (by kit_is) (by kit_is) (by decide)
    have e_BadTime := DL.err_of (P := PySem.Challenge.rw_skypasses_k71_looks_put_in_and_out.prog) (mg := mg) (x := "BadTime") (st := L2.inClass (K71.top 5) 0) KX G (by k_is) (by k_is) (by k_is) (by ks_is) (by k_is) (by k_is) (by k_is) (by k_is) (by k_is) (by k_is) (by k_is) (by k_is) rfl rfl rfl rfl (by k_is) (by k_is) (by k_is) rfl (by first | rfl | decide +kernel) (by k_is) (by first | rfl | decide +kernel) (by k_is) (by k_is) (by k_is) (by k_is) (by k_is) (by k_is) (by k_is) (by kit_is) (by kit_is) (by decide)
    have i_MOST_LOOKS := DL.int_of (mg := mg) (x := "MOST_LOOKS") (n := 16) KX G (by k_is)
    have i_MOST_WISHES := DL.int_of (mg := mg) (x := "MOST_WISHES") (n := 6) KX G (by k_is)
    have i_MOST_EARS := DL.int_of (mg := mg) (x := "MOST_EARS") (n := 4) KX G (by k_is)
    have i_LAST := DL.int_of (mg := mg) (x := "LAST") (n := 200) KX G (by k_is)
    have d_is_within := DL.fun_of (mg := mg) (x := "is_within") (qual := "is_within") (st := K71.top 11) KX G (by k_is) (by k_is) (by k_is) (by k_is)
    have d_check_look := DL.fun_of (mg := mg) (x := "check_look") (qual := "check_look") (st := K71.top 12) KX G (by k_is) (by k_is) (by k_is) (by k_is)
    have d_check_ear := DL.fun_of (mg := mg) (x := "check_ear") (qual := "check_ear") (st := K71.top 13) KX G (by k_is) (by k_is) (by k_is) (by k_is)
    have d_check_sky := DL.fun_of (mg := mg) (x := "check_sky") (qual := "check_sky") (st := K71.top 14) KX G (by k_is) (by k_is) (by k_is) (by k_is)
    have d_with_looks := DL.fun_of (mg := mg) (x := "with_looks") (qual := "with_looks") (st := K71.top 16) KX G (by k_is) (by k_is) (by k_is) (by k_is)
    have d_without_look := DL.fun_of (mg := mg) (x := "without_look") (qual := "without_look") (st := K71.top 17) KX G (by k_is) (by k_is) (by k_is) (by k_is)
    have d_with_look := DL.fun_of (mg := mg) (x := "with_look") (qual := "with_look") (st := K71.top 18) KX G (by k_is) (by k_is) (by k_is) (by k_is)
    have d__law_draws := DL.fun_of (mg := mg) (x := "_law_draws") (qual := "_law_draws") (st := K71.top 20) KX G (by k_is) (by k_is) (by k_is) (by k_is)
    have d__law_sky := DL.fun_of (mg := mg) (x := "_law_sky") (qual := "_law_sky") (st := K71.top 21) KX G (by k_is) (by k_is) (by k_is) (by k_is)
    have d__law_told := DL.fun_of (mg := mg) (x := "_law_told") (qual := "_law_told") (st := K71.top 22) KX G (by k_is) (by k_is) (by k_is) (by k_is)
    have d__law_is_within := DL.fun_of (mg := mg) (x := "_law_is_within") (qual := "_law_is_within") (st := K71.top 23) KX G (by k_is) (by k_is) (by k_is) (by k_is)
    have d__law_due := DL.fun_of (mg := mg) (x := "_law_due") (qual := "_law_due") (st := K71.top 24) KX G (by k_is) (by k_is) (by k_is) (by k_is)
    exact ⟨fd, FL, K71.law_binds FL, hp, K71.all_of hp e_BadSize e_BadNumber e_BadWish e_BadTime i_MOST_LOOKS i_MOST_WISHES i_MOST_EARS i_LAST d_is_within d_check_look d_check_ear d_check_sky d_with_looks d_without_look d_with_look d__law_draws d__law_sky d__law_told d__law_is_within d__law_due⟩

