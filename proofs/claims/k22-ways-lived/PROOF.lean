import PyProof.Rows.All
import Wide.All
import OpenK.AllK
import Wide.FinOn
import HandS.ForMost
import HandS.TupAny
import HandS.Conv
import HandS.DictComp
import HandS.TupSets
import HandS.Zip
import HandS.CallRecv
import HandS.Style
import HandS.EndTab
import HandS.SetFor
import KE.KDictKeyed
import KE.KeyNested
import HandS.Call
import KE.GoesEnumKw
import HandS.Iter
import KE.GoesMore
import PyProof.EnumMake
import PyProof.Draws
import HandS.Lambda
import KE.DataMinKey
import KE.KRevSl
import HandS.HeadWalk
import KE.KDictPairs
import PySem.Challenge.RW_roundlooks_k22_whole_ways_lived
set_option Elab.async false
set_option linter.all false
set_option maxRecDepth 100000
/-! KA: immutable data over the abstract heap, what calls keep, frames of a def told by data. -/
namespace K22
open PySem PySem.Spec L2 LamX

/-! ### data -/
mutual
/-- the value is this immutable datum -/
inductive Dt (H : Hp) : V → PyData → Prop
  | non : Dt H .non .none
  | bl (b : Bool) : Dt H (.bl b) (.bool b)
  | int (i : Int) : Dt H (.int i) (.int i)
  | str (x : Str) : Dt H (.str x) (.str x)
  | tup {a : Addr} {xs : List V} {ds : List PyData} : H a = some (.tup xs) → DtA H xs ds → Dt H (.ref a) (.tuple ds)
  /-- a tuple of pairs of which it is known that its object has no dict of its own: told as a PyData.dict -/
  | fz {a : Addr} {o : Obj} {xs : List V} {kvs : List (PyData × PyData)} : H a = some (.frz o (.tup xs)) → o.dict = none → DtA H xs (kvs.map fun p => .tuple [p.1, p.2]) → Dt H (.ref a) (.dict kvs)
inductive DtA (H : Hp) : List V → List PyData → Prop
  | nil : DtA H [] []
  | cons {v : V} {vs : List V} {d : PyData} {ds : List PyData} : Dt H v d → DtA H vs ds → DtA H (v :: vs) (d :: ds)
end
/-- tuples are kept -/
structure Tk (H H' : Hp) : Prop where
  t : ∀ a xs, H a = some (.tup xs) → H' a = some (.tup xs)
  f : ∀ a o xs, H a = some (.frz o (.tup xs)) → H' a = some (.frz o (.tup xs))
instance {H H' : Hp} : CoeFun (Tk H H') (fun _ => ∀ a xs, H a = some (.tup xs) → H' a = some (.tup xs)) := ⟨Tk.t⟩
/-- a tuple, known or not -/
def IsT : HO → Prop
  | .tup _ => True
  | .frz _ (.tup _) => True
  | _ => False
theorem Tk.of {H H' : Hp} (h : ∀ a u, IsT u → H a = some u → H' a = some u) : Tk H H' := ⟨fun a xs e => h a _ trivial e, fun a o xs e => h a _ trivial e⟩
theorem Tk.at {H H' : Hp} (t : Tk H H') {a : Addr} {u : HO} (hu : IsT u) (h : H a = some u) : H' a = some u := by
  cases u with
  | tup xs => exact t.t a xs h
  | frz o u =>
    cases u with
    | tup xs => exact t.f a o xs h
    | _ => exact hu.elim
  | _ => exact hu.elim
theorem Tk.refl (H : Hp) : Tk H H := ⟨fun _ _ h => h, fun _ _ _ h => h⟩
theorem Tk.trans {H H1 H2 : Hp} (a : Tk H H1) (b : Tk H1 H2) : Tk H H2 := ⟨fun c o h => b.t c o (a.t c o h), fun c o xs h => b.f c o xs (a.f c o xs h)⟩
mutual
theorem Dt.mono {H H' : Hp} (t : Tk H H') : ∀ {v : V} {d : PyData}, Dt H v d → Dt H' v d
  | _, _, .non => .non
  | _, _, .bl b => .bl b
  | _, _, .int i => .int i
  | _, _, .str x => .str x
  | _, _, .tup h r => .tup (t _ _ h) (DtA.mono t r)
  | _, _, .fz h e r => .fz (t.f _ _ _ h) e (DtA.mono t r)
theorem DtA.mono {H H' : Hp} (t : Tk H H') : ∀ {vs : List V} {ds : List PyData}, DtA H vs ds → DtA H' vs ds
  | _, _, .nil => .nil
  | _, _, .cons h r => .cons (Dt.mono t h) (DtA.mono t r)
end
theorem Dt.i {H : Hp} {v : V} {i : Int} (h : Dt H v (.int i)) : v = .int i := by cases h; rfl
theorem Dt.s {H : Hp} {v : V} {i : Str} (h : Dt H v (.str i)) : v = .str i := by cases h; rfl
theorem Dt.b {H : Hp} {v : V} {i : Bool} (h : Dt H v (.bool i)) : v = .bl i := by cases h; rfl
theorem Dt.n {H : Hp} {v : V} (h : Dt H v .none) : v = .non := by cases h; rfl
theorem Dt.t {H : Hp} {v : V} {ds : List PyData} (h : Dt H v (.tuple ds)) : ∃ a xs, v = .ref a ∧ H a = some (.tup xs) ∧ DtA H xs ds := by
  cases h with
  | tup h r => exact ⟨_, _, rfl, h, r⟩
theorem DtA.len {H : Hp} : ∀ {vs : List V} {ds : List PyData}, DtA H vs ds → vs.length = ds.length
  | _, _, .nil => rfl
  | _, _, .cons _ r => congrArg (· + 1) (DtA.len r)
theorem DtA.get {H : Hp} : ∀ {vs : List V} {ds : List PyData} {i : Nat} {d : PyData}, DtA H vs ds → ds[i]? = some d → ∃ v, vs[i]? = some v ∧ Dt H v d
  | _, _, _, _, .nil, e => by simp at e
  | _, _, 0, _, .cons h _, e => by
    simp at e
    subst e
    exact ⟨_, rfl, h⟩
  | _, _, i + 1, d, .cons _ r, e => by
    obtain ⟨v, h1, h2⟩ := DtA.get (i := i) (d := d) r (by simpa using e)
    exact ⟨v, by simpa using h1, h2⟩
theorem DtA.get' {H : Hp} : ∀ {vs : List V} {ds : List PyData} {i : Nat} {v : V}, DtA H vs ds → vs[i]? = some v → ∃ d, ds[i]? = some d ∧ Dt H v d
  | _, _, _, _, .nil, e => by simp at e
  | _, _, 0, _, .cons h _, e => by
    simp at e
    subst e
    exact ⟨_, rfl, h⟩
  | _, _, i + 1, d, .cons _ r, e => by
    obtain ⟨v, h1, h2⟩ := DtA.get' (i := i) (v := d) r (by simpa using e)
    exact ⟨v, by simpa using h1, h2⟩
theorem DtA.app {H : Hp} : ∀ {vs ws : List V} {ds es : List PyData}, DtA H vs ds → DtA H ws es → DtA H (vs ++ ws) (ds ++ es)
  | _, _, _, _, .nil, s => s
  | _, _, _, _, .cons h r, s => .cons h (DtA.app r s)
theorem DtA.drop {H : Hp} : ∀ {vs : List V} {ds : List PyData} (n : Nat), DtA H vs ds → DtA H (vs.drop n) (ds.drop n)
  | _, _, 0, r => r
  | _, _, _ + 1, .nil => .nil
  | _, _, n + 1, .cons _ r => DtA.drop n r
theorem DtA.take {H : Hp} : ∀ {vs : List V} {ds : List PyData} (n : Nat), DtA H vs ds → DtA H (vs.take n) (ds.take n)
  | _, _, 0, _ => .nil
  | _, _, _ + 1, .nil => .nil
  | _, _, n + 1, .cons h r => .cons h (DtA.take n r)
theorem DtA.set {H : Hp} {v : V} {d : PyData} (hd : Dt H v d) : ∀ {vs : List V} {ds : List PyData} (n : Nat), DtA H vs ds → DtA H (vs.set n v) (ds.set n d)
  | _, _, _, .nil => .nil
  | _, _, 0, .cons _ r => .cons hd r
  | _, _, n + 1, .cons h r => .cons h (DtA.set hd n r)
theorem DtA.rev {H : Hp} {vs : List V} {ds : List PyData} (h : DtA H vs ds) : DtA H vs.reverse ds.reverse := by
  have go : ∀ {vs : List V} {ds : List PyData}, DtA H vs ds → DtA H vs.reverse ds.reverse := by
    intro vs
    induction vs with
    | nil => intro ds h; cases h; exact .nil
    | cons v r ih =>
      intro ds h
      cases h with
      | cons h1 h2 =>
        rw [List.reverse_cons, List.reverse_cons]
        exact DtA.app (ih h2) (.cons h1 .nil)
  exact go h
theorem DtA.ints {H : Hp} : ∀ {vs : List V} {ns : List Int}, DtA H vs (ns.map PyData.int) → vs = ns.map V.int
  | _, [], .nil => rfl
  | _, n :: r, h => by
    rw [List.map_cons] at h
    cases h with
    | cons h1 h2 => rw [Dt.i h1, DtA.ints h2, List.map_cons]
theorem DtA.of_ints {H : Hp} : ∀ (ns : List Int), DtA H (ns.map V.int) (ns.map PyData.int)
  | [] => .nil
  | n :: r => .cons (.int n) (DtA.of_ints r)
/-! data as the deep data of ==  -/
mutual
theorem Dt.dp {K : PySem.W.Frag} {H : Hp} : ∀ {v : V} {d : PyData}, Dt H v d → d.canLay0 = true → Dp K H v d
  | _, _, .non, _ => .non
  | _, _, .bl b, _ => .bl b
  | _, _, .int i, _ => .int i
  | _, _, .str x, _ => .str x
  | _, _, .tup h r, l => .tup (SqT.of h) (DtA.dp r (by simpa [PyData.canLay0] using l))
  | _, _, .fz _ _ _, l => nomatch l
theorem DtA.dp {K : PySem.W.Frag} {H : Hp} : ∀ {vs : List V} {ds : List PyData}, DtA H vs ds → PyData.canLayAll0 ds = true → DpAll K H vs ds
  | _, _, .nil, _ => .nil
  | _, _, .cons (d := d) (ds := ds) h r, l => by
    have l2 : d.canLay0 = true ∧ PyData.canLayAll0 ds = true := by simpa [PyData.canLayAll0] using l
    exact .cons (Dt.dp h l2.1) (DtA.dp r l2.2)
end
theorem shaped_lay {d : PyData} (h : SeqAt.shaped d = true) : d.canLay0 = true := by
  unfold SeqAt.shaped at h
  rw [Bool.and_eq_true] at h
  exact h.1
theorem atI_get {α β : Type} {xs : List α} {ys : List β} {i : Int} {y : β} (hl : xs.length = ys.length) (h : atI ys i = some y) : ∃ j : Nat, ys[j]? = some y ∧ ∀ x, xs[j]? = some x → atI xs i = some x := by
  unfold atI at h ⊢
  rw [hl]
  cases e : ixN ys.length i with
  | none => rw [e] at h; cases h
  | some j =>
    rw [e] at h
    exact ⟨j, h, fun x hx => hx⟩
theorem DtA.at {H : Hp} {vs : List V} {ds : List PyData} {i : Int} {d : PyData} (r : DtA H vs ds) (h : atI ds i = some d) : ∃ v, atI vs i = some v ∧ Dt H v d := by
  obtain ⟨j, h1, h2⟩ := atI_get r.len h
  obtain ⟨v, h3, h4⟩ := r.get h1
  exact ⟨v, h2 v h3, h4⟩

/-! ### what is kept -/
/-- a pen: its list, the cells' list, the cells -/
structure PenD where
  p : Addr
  c : Addr
  ns : List Int
/-- the pen: a list of the cells' list and two numbers -/
def Pen (P : PenD) (H : Hp) : Prop := (∃ i j : Int, H P.p = some (.lst [.ref P.c, .int i, .int j])) ∧ H P.c = some (.lst (P.ns.map V.int)) ∧ P.ns.length ≤ 63
theorem Pen.ne {P : PenD} {H : Hp} (h : Pen P H) : P.c ≠ P.p := by
  obtain ⟨⟨i, j, h1⟩, h2, _⟩ := h
  intro e
  rw [e, h1] at h2
  injection h2 with h2
  injection h2 with h2
  cases hn : P.ns with
  | nil => rw [hn] at h2; cases h2
  | cons n r => rw [hn] at h2; injection h2 with h3 _; cases h3
/-- not the pen's own list -/
def NP (po : Option PenD) (a : Addr) : Prop := ∀ P, po = some P → a ≠ P.p
theorem NP.none {a : Addr} : NP none a := fun _ q => nomatch q
/-- T: tables of code objects, which may grow; po: the pen -/
structure Ex (T : List (Addr × Str)) (po : Option PenD) (H H' : Hp) : Prop where
  keep : ∀ a o, NP po a → (∀ ps, o ≠ .tbl ps) → H a = some o → H' a = some o
  tup : Tk H H'
  pen : ∀ P, po = some P → Pen P H → Pen P H'
  dom : ∀ a, H' a = none → H a = none
  tab : Tabs T H → Tabs T H'
section
variable {T : List (Addr × Str)} {po : Option PenD} {H H' H1 H2 : Hp}
theorem Ex.refl (H : Hp) : Ex T po H H := ⟨fun _ _ _ _ h => h, Tk.refl H, fun _ _ h => h, fun _ h => h, fun h => h⟩
theorem Ex.trans (a : Ex T po H H1) (b : Ex T po H1 H2) : Ex T po H H2 :=
  ⟨fun c o h1 h2 h => b.keep c o h1 h2 (a.keep c o h1 h2 h), a.tup.trans b.tup, fun p e h => b.pen p e (a.pen p e h), fun c h => a.dom c (b.dom c h), fun h => b.tab (a.tab h)⟩
theorem Pen.same {P : PenD} (e : ∀ b o, (∀ ps, o ≠ .tbl ps) → H b = some o → H' b = some o) (h : Pen P H) : Pen P H' := by
  obtain ⟨⟨i, j, h1⟩, h2, h3⟩ := h
  exact ⟨⟨i, j, e _ _ (fun _ q => nomatch q) h1⟩, e _ _ (fun _ q => nomatch q) h2, h3⟩
theorem Ex.same (s : Same H H') : Ex T po H H' :=
  ⟨fun a o _ _ h => s a o h, .of fun a _ _ h => s a _ h, fun _ _ h => h.same fun b o _ q => s b o q, fun _ h => s.free h, fun h => h.ext s⟩
theorem Ex.new {p : Addr} {o : HO} (h : H p = none) : Ex T po H (upd H p o) := Ex.same fun a u e => by
  rw [upd_ne (ne_of_none e h)]
  exact e
theorem Ex.weak (e : Ex T none H H') : Ex T po H H' :=
  ⟨fun a o _ h2 h => e.keep a o NP.none h2 h, e.tup, fun _ _ h => h.same fun b o h2 q => e.keep b o NP.none h2 q, e.dom, e.tab⟩
theorem Ex.lst (e : Ex T po H H') {a : Addr} {xs : List V} (hp : NP po a) (h : H a = some (.lst xs)) : H' a = some (.lst xs) := e.keep a _ hp (fun _ q => nomatch q) h
theorem Pen.some {P : PenD} (h : Pen P H) : (H P.p).isSome = true := by
  obtain ⟨⟨i, j, h1⟩, _⟩ := h
  rw [h1]
  rfl
theorem Pen.someC {P : PenD} (h : Pen P H) : (H P.c).isSome = true := by
  obtain ⟨_, h1, _⟩ := h
  rw [h1]
  rfl
end
theorem codeO_lst {c : Addr} {q : Str} (xs : List V) : CodeO c q ≠ .lst xs := fun z => by
  unfold CodeO at z
  cases z
theorem tabs_other {T : List (Addr × Str)} {H : Hp} {a : Addr} {o u : HO} (h : Tabs T H) (hv : H a = some u) (hT : ∀ q ps, u ≠ CodeO a q ∧ u ≠ .tbl ps) : Tabs T (upd H a o) := fun p hp => by
  obtain ⟨ps, h1, h2, h3⟩ := h p hp
  refine ⟨ps, by rw [upd_ne (ne_of h1 hv (fun q => (hT p.2 ps).2 q.symm))]; exact h1, h2, fun pos cv hc => ?_⟩
  obtain ⟨c, e1, e2⟩ := h3 pos cv hc
  refine ⟨c, e1, ?_⟩
  have n : c ≠ a := fun z => by
    subst z
    rw [hv] at e2
    exact (hT p.2 ps).1 (Option.some.inj e2)
  rw [upd_ne n]
  exact e2
theorem tabs_lst {T : List (Addr × Str)} {H : Hp} {a : Addr} {o : HO} {xs : List V} (h : Tabs T H) (hv : H a = some (.lst xs)) : Tabs T (upd H a o) := tabs_other h hv fun q ps => ⟨fun z => codeO_lst xs z.symm, fun z => nomatch z⟩
/-- what a slot holds -/
inductive AV where
  | u | d (x : PyData) | l (xs : List PyData) | k (xs : List PyData) | r (v : V)
/-- Hb: the heap at the def's entry; a list l was made since, a list k stood then -/
def SOk (po : Option PenD) (Hb H : Hp) (s : Option (Option V)) : AV → Prop
  | .u => True
  | .d x => ∃ v, s = some (some v) ∧ Dt H v x
  | .l xs => ∃ a vs, s = some (some (.ref a)) ∧ Hb a = none ∧ H a = some (.lst vs) ∧ DtA H vs xs
  | .k xs => ∃ a vs, s = some (some (.ref a)) ∧ NP po a ∧ Hb a = some (.lst vs) ∧ DtA Hb vs xs
  | .r v => s = some (some v)
theorem SOk.mono {T : List (Addr × Str)} {po : Option PenD} {Hb H H' : Hp} {s : Option (Option V)} {x : AV} (hpen : ∀ P, po = some P → Pen P Hb) (e : Ex T po H H') (h : SOk po Hb H s x) : SOk po Hb H' s x := by
  cases x with
  | u => trivial
  | d x =>
    obtain ⟨v, h1, h2⟩ := h
    exact ⟨v, h1, h2.mono e.tup⟩
  | l xs =>
    obtain ⟨a, vs, h1, h0, h2, h3⟩ := h
    refine ⟨a, vs, h1, h0, e.lst (fun P q z => ?_) h2, h3.mono e.tup⟩
    have w := (hpen P q).some
    rw [← z, h0] at w
    cases w
  | k xs => exact h
  | r v => exact h
/-- the def's frame, told by data; gs: values held aside -/
structure Fr (T : List (Addr × Str)) (po : Option PenD) (Hb : Hp) (gs : List (V × AV)) (env : List AV) (H : Hp) (σ : St) : Prop where
  ext : Ex T po Hb H
  pen : ∀ P, po = some P → Pen P Hb
  len : env.length = σ.length
  sl : ∀ (i : Nat) (x : AV), env[i]? = some x → SOk po Hb H σ[i]? x
  sep : ∀ (i j : Nat) (a : Addr) (xs ys : List PyData), i ≠ j → env[i]? = some (.l xs) → env[j]? = some (.l ys) → σ[i]? = some (some (.ref a)) → σ[j]? ≠ some (some (.ref a))
  gh : ∀ g ∈ gs, SOk po Hb H (some (some g.1)) g.2 ∧ ∀ (i : Nat) (a : Addr) (xs ys : List PyData), g.1 = .ref a → g.2 = .l ys → env[i]? = some (.l xs) → σ[i]? ≠ some (some (.ref a))
section
variable {T : List (Addr × Str)} {po : Option PenD} {Hb H H' : Hp} {gs : List (V × AV)} {env : List AV} {σ : St}
theorem Fr.mono (F : Fr T po Hb gs env H σ) (e : Ex T po H H') : Fr T po Hb gs env H' σ :=
  ⟨F.ext.trans e, F.pen, F.len, fun i x h => (F.sl i x h).mono F.pen e, F.sep, fun g hg => ⟨(F.gh g hg).1.mono F.pen e, (F.gh g hg).2⟩⟩
theorem Fr.penNow (F : Fr T po Hb gs env H σ) : ∀ P, po = some P → Pen P H := fun p e => F.ext.pen p e (F.pen p e)
theorem Fr.notPen (F : Fr T po Hb gs env H σ) {a : Addr} (h : Hb a = none) : NP po a := fun P q z => by
  have w := (F.pen P q).some
  rw [← z, h] at w
  cases w
/-- a slot gets a datum (or an address told) -/
theorem Fr.set (F : Fr T po Hb gs env H σ) {i : Nat} {v : V} {x : AV} (hx : SOk po Hb H (some (some v)) x) (hl : ∀ ys, x ≠ .l ys) : Fr T po Hb gs (env.set i x) H (σ.set i (some v)) := by
  have back : ∀ {j : Nat} {xs : List PyData}, (env.set i x)[j]? = some (.l xs) → env[j]? = some (.l xs) ∧ j ≠ i := fun {j xs} h => by
    by_cases e : i = j
    · subst e
      rw [List.getElem?_set] at h
      simp only [if_true] at h
      split at h
      · exact absurd (Option.some.inj h) (hl xs)
      · cases h
    · rw [List.getElem?_set_ne e] at h
      exact ⟨h, fun q => e q.symm⟩
  refine ⟨F.ext, F.pen, by rw [List.length_set, List.length_set]; exact F.len, fun j y h => ?_, fun j k a xs ys hjk h1 h2 h3 => ?_, fun g hg => ⟨(F.gh g hg).1, fun j a xs ys e1 e2 h => ?_⟩⟩
  · by_cases e : i = j
    · subst e
      have hlt : i < env.length := by
        have q := (List.getElem?_eq_some_iff.mp h).1
        rw [List.length_set] at q
        exact q
      rw [List.getElem?_set_self hlt] at h
      cases h
      rw [List.getElem?_set_self (by rw [← F.len]; exact hlt)]
      exact hx
    · rw [List.getElem?_set_ne e] at h ⊢
      exact F.sl j y h
  · obtain ⟨b1, n1⟩ := back h1
    obtain ⟨b2, n2⟩ := back h2
    rw [List.getElem?_set_ne (Ne.symm n1)] at h3
    rw [List.getElem?_set_ne (Ne.symm n2)]
    exact F.sep j k a xs ys hjk b1 b2 h3
  · obtain ⟨b1, n1⟩ := back h
    rw [List.getElem?_set_ne (Ne.symm n1)]
    exact (F.gh g hg).2 j a xs ys e1 e2 b1
theorem Fr.setD (F : Fr T po Hb gs env H σ) {i : Nat} {v : V} {x : PyData} (h : Dt H v x) : Fr T po Hb gs (env.set i (.d x)) H (σ.set i (some v)) := F.set ⟨v, rfl, h⟩ (fun _ q => nomatch q)
theorem Fr.setR (F : Fr T po Hb gs env H σ) {i : Nat} {v : V} : Fr T po Hb gs (env.set i (.r v)) H (σ.set i (some v)) := F.set rfl (fun _ q => nomatch q)
/-- the value at the slot is told no more -/
theorem Fr.setU (F : Fr T po Hb gs env H σ) {i : Nat} {s : Option V} : Fr T po Hb gs (env.set i .u) H (σ.set i s) := by
  have back : ∀ {j : Nat} {x : AV}, (env.set i .u)[j]? = some x → x = .u ∨ (env[j]? = some x ∧ j ≠ i) := fun {j x} h => by
    by_cases e : i = j
    · subst e
      rw [List.getElem?_set] at h
      simp only [if_true] at h
      split at h
      · exact .inl (Option.some.inj h).symm
      · cases h
    · rw [List.getElem?_set_ne e] at h
      exact .inr ⟨h, fun q => e q.symm⟩
  have backL : ∀ {j : Nat} {xs : List PyData}, (env.set i .u)[j]? = some (.l xs) → env[j]? = some (.l xs) ∧ j ≠ i := fun {j xs} h => (back h).elim (fun q => nomatch q) fun q => q
  refine ⟨F.ext, F.pen, by rw [List.length_set, List.length_set]; exact F.len, fun j y h => ?_, fun j k a xs ys hjk h1 h2 h3 => ?_, fun g hg => ⟨(F.gh g hg).1, fun j a xs ys e1 e2 h => ?_⟩⟩
  · rcases back h with rfl | ⟨b, n⟩
    · trivial
    · rw [List.getElem?_set_ne (Ne.symm n)]
      exact F.sl j y b
  · obtain ⟨b1, n1⟩ := backL h1
    obtain ⟨b2, n2⟩ := backL h2
    rw [List.getElem?_set_ne (Ne.symm n1)] at h3
    rw [List.getElem?_set_ne (Ne.symm n2)]
    exact F.sep j k a xs ys hjk b1 b2 h3
  · obtain ⟨b1, n1⟩ := backL h
    rw [List.getElem?_set_ne (Ne.symm n1)]
    exact (F.gh g hg).2 j a xs ys e1 e2 b1
/-- no slot and nothing held aside is this address -/
def Off (gs : List (V × AV)) (env : List AV) (σ : St) (a : Addr) : Prop :=
  (∀ (i : Nat) (xs : List PyData), env[i]? = some (.l xs) → σ[i]? ≠ some (some (.ref a))) ∧ ∀ g ∈ gs, (∃ ys, g.2 = .l ys) → g.1 ≠ .ref a
theorem Fr.off (F : Fr T po Hb gs env H σ) {a : Addr} (h : H a = none) : Off gs env σ a := by
  refine ⟨fun i xs e q => ?_, fun g hg ⟨ys, e⟩ q => ?_⟩
  · obtain ⟨b, vs, h1, _, h2, _⟩ := F.sl i _ e
    rw [h1] at q
    cases q
    rw [h] at h2
    cases h2
  · obtain ⟨h1, _⟩ := F.gh g hg
    rw [e] at h1
    obtain ⟨b, vs, h1, _, h2, _⟩ := h1
    have h3 : V.ref b = .ref a := (Option.some.inj (Option.some.inj h1)).symm.trans q
    cases h3
    rw [h] at h2
    cases h2
/-- a slot gets a list that no other slot has -/
theorem Fr.setL (F : Fr T po Hb gs env H σ) {i : Nat} {a : Addr} {vs : List V} {xs : List PyData} (h0 : Hb a = none) (hv : H a = some (.lst vs)) (hd : DtA H vs xs) (off : Off gs env σ a) : Fr T po Hb gs (env.set i (.l xs)) H (σ.set i (some (.ref a))) := by
  have back : ∀ {j : Nat} {ys : List PyData}, (env.set i (.l xs))[j]? = some (.l ys) → j = i ∧ i < env.length ∨ (env[j]? = some (.l ys) ∧ j ≠ i) := fun {j ys} h => by
    by_cases e : i = j
    · subst e
      have hlt := (List.getElem?_eq_some_iff.mp h).1
      rw [List.length_set] at hlt
      exact .inl ⟨rfl, hlt⟩
    · rw [List.getElem?_set_ne e] at h
      exact .inr ⟨h, fun q => e q.symm⟩
  refine ⟨F.ext, F.pen, by rw [List.length_set, List.length_set]; exact F.len, fun j y h => ?_, fun j k b ys zs hjk h1 h2 h3 h4 => ?_, fun g hg => ⟨(F.gh g hg).1, fun j b ys zs e1 e2 h h4 => ?_⟩⟩
  · by_cases e : i = j
    · subst e
      have hlt : i < env.length := by
        have q := (List.getElem?_eq_some_iff.mp h).1
        rw [List.length_set] at q
        exact q
      rw [List.getElem?_set_self hlt] at h
      cases h
      rw [List.getElem?_set_self (by rw [← F.len]; exact hlt)]
      exact ⟨a, vs, rfl, h0, hv, hd⟩
    · rw [List.getElem?_set_ne e] at h ⊢
      exact F.sl j y h
  · rcases back h1 with ⟨rfl, hl⟩ | ⟨b1, n1⟩
    · rcases back h2 with ⟨rfl, _⟩ | ⟨b2, n2⟩
      · exact hjk rfl
      · rw [List.getElem?_set_self (by rw [← F.len]; exact hl)] at h3
        cases h3
        rw [List.getElem?_set_ne (Ne.symm n2)] at h4
        exact off.1 k zs b2 h4
    · rw [List.getElem?_set_ne (Ne.symm n1)] at h3
      rcases back h2 with ⟨rfl, hl⟩ | ⟨b2, n2⟩
      · rw [List.getElem?_set_self (by rw [← F.len]; exact hl)] at h4
        cases h4
        exact off.1 j ys b1 h3
      · rw [List.getElem?_set_ne (Ne.symm n2)] at h4
        exact F.sep j k b ys zs hjk b1 b2 h3 h4
  · rcases back h with ⟨rfl, hl⟩ | ⟨b1, n1⟩
    · rw [List.getElem?_set_self (by rw [← F.len]; exact hl)] at h4
      cases h4
      exact off.2 g hg ⟨zs, e2⟩ e1
    · rw [List.getElem?_set_ne (Ne.symm n1)] at h4
      exact (F.gh g hg).2 j b ys zs e1 e2 b1 h4
/-- a list of a slot is written -/
theorem Fr.put (F : Fr T po Hb gs env H σ) {i : Nat} {a : Addr} {vs ws : List V} {xs ys : List PyData} (hi : env[i]? = some (.l xs)) (hs : σ[i]? = some (some (.ref a))) (hv : H a = some (.lst vs)) (hd : DtA H ws ys) :
    Fr T po Hb gs (env.set i (.l ys)) (upd H a (.lst ws)) σ ∧ Tk H (upd H a (.lst ws)) := by
  obtain ⟨a', vs', e1, h0, hv', hd'⟩ := F.sl i _ hi
  rw [hs] at e1
  cases e1
  have hlt : i < env.length := (List.getElem?_eq_some_iff.mp hi).1
  have tk : Tk H (upd H a (.lst ws)) := .of fun b u hu h => by
    rw [upd_ne (ne_of h hv (fun q => by subst q; exact hu))]
    exact h
  have back : ∀ {j : Nat} {zs : List PyData}, (env.set i (.l ys))[j]? = some (.l zs) → ∃ zs', env[j]? = some (.l zs') := fun {j zs} h => by
    by_cases e : i = j
    · subst e
      exact ⟨xs, hi⟩
    · rw [List.getElem?_set_ne e] at h
      exact ⟨zs, h⟩
  have keepS : ∀ {s : Option (Option V)} {x : AV}, SOk po Hb H s x → (∀ zs, x = .l zs → s ≠ some (some (.ref a))) → SOk po Hb (upd H a (.lst ws)) s x := fun {s x} h hn => by
    cases x with
    | u => trivial
    | d x =>
      obtain ⟨v, h1, h2⟩ := h
      exact ⟨v, h1, h2.mono tk⟩
    | l zs =>
      obtain ⟨b, us, h1, h0', h2, h3⟩ := h
      refine ⟨b, us, h1, h0', ?_, h3.mono tk⟩
      rw [upd_ne (fun q => hn zs rfl (by rw [h1, q]))]
      exact h2
    | k xs => exact h
    | r v => exact h
  refine ⟨⟨⟨fun b o h1 h2 h => ?_, F.ext.tup.trans tk, fun P e h => ?_, fun b h => ?_, fun h => ?_⟩, F.pen, by rw [List.length_set]; exact F.len, fun j y h => ?_, fun j k b us zs hjk h1 h2 h3 => ?_, fun g hg => ⟨?_, fun j b us zs e1 e2 h => ?_⟩⟩, tk⟩
  · rw [upd_ne (ne_of_none h h0)]
    exact F.ext.keep b o h1 h2 h
  · have q := F.penNow P e
    have hpa : P.p ≠ a := fun z => F.notPen h0 P e z.symm
    have hca : P.c ≠ a := fun z => by
      have w := (F.pen P e).someC
      rw [z, h0] at w
      cases w
    obtain ⟨⟨i', j', q1⟩, q2, q3⟩ := q
    exact ⟨⟨i', j', by rw [upd_ne hpa]; exact q1⟩, by rw [upd_ne hca]; exact q2, q3⟩
  · by_cases e : b = a
    · subst e
      rw [upd_same] at h
      cases h
    · rw [upd_ne e] at h
      exact F.ext.dom b h
  · exact tabs_lst (F.ext.tab h) hv
  · by_cases e : i = j
    · subst e
      rw [List.getElem?_set_self hlt] at h
      cases h
      exact ⟨a, ws, hs, h0, upd_same, hd.mono tk⟩
    · rw [List.getElem?_set_ne e] at h
      refine keepS (F.sl j y h) fun zs ey q => ?_
      subst ey
      exact F.sep i j a xs zs e hi h hs q
  · obtain ⟨u1, b1⟩ := back h1
    obtain ⟨u2, b2⟩ := back h2
    exact F.sep j k b u1 u2 hjk b1 b2 h3
  · refine keepS (F.gh g hg).1 fun zs ey q => ?_
    have e1 : g.1 = .ref a := Option.some.inj (Option.some.inj q)
    exact (F.gh g hg).2 i a xs zs e1 ey hi hs
  · obtain ⟨u1, b1⟩ := back h
    exact (F.gh g hg).2 j b u1 zs e1 e2 b1
/-- an object that is no slot's list is written (it was made since, and is no tuple, no table) -/
theorem Fr.other (F : Fr T po Hb gs env H σ) {a : Addr} {o u : HO} (h0 : Hb a = none) (hv : H a = some u) (ht : ¬ IsT u) (hT : ∀ q ps, u ≠ CodeO a q ∧ u ≠ .tbl ps) (off : Off gs env σ a) : Fr T po Hb gs env (upd H a o) σ ∧ Tk H (upd H a o) := by
  have tk : Tk H (upd H a o) := .of fun b z hz h => by
    rw [upd_ne (ne_of h hv (fun q => ht (q ▸ hz)))]
    exact h
  have keepS : ∀ {s : Option (Option V)} {x : AV}, SOk po Hb H s x → (∀ zs, x = .l zs → s ≠ some (some (.ref a))) → SOk po Hb (upd H a o) s x := fun {s x} h hn => by
    cases x with
    | u => trivial
    | d x =>
      obtain ⟨v, h1, h2⟩ := h
      exact ⟨v, h1, h2.mono tk⟩
    | l zs =>
      obtain ⟨b, us, h1, h0', h2, h3⟩ := h
      refine ⟨b, us, h1, h0', ?_, h3.mono tk⟩
      rw [upd_ne (fun q => hn zs rfl (by rw [h1, q]))]
      exact h2
    | k xs => exact h
    | r v => exact h
  refine ⟨⟨⟨fun b w h1 h2 h => ?_, F.ext.tup.trans tk, fun P e h => ?_, fun b h => ?_, fun h => ?_⟩, F.pen, F.len, fun j y h => ?_, F.sep, fun g hg => ⟨?_, (F.gh g hg).2⟩⟩, tk⟩
  · rw [upd_ne (ne_of_none h h0)]
    exact F.ext.keep b w h1 h2 h
  · have q := F.penNow P e
    have hpa : P.p ≠ a := fun z => F.notPen h0 P e z.symm
    have hca : P.c ≠ a := fun z => by
      have w := (F.pen P e).someC
      rw [z, h0] at w
      cases w
    obtain ⟨⟨i', j', q1⟩, q2, q3⟩ := q
    exact ⟨⟨i', j', by rw [upd_ne hpa]; exact q1⟩, by rw [upd_ne hca]; exact q2, q3⟩
  · by_cases e : b = a
    · subst e
      rw [upd_same] at h
      cases h
    · rw [upd_ne e] at h
      exact F.ext.dom b h
  · exact tabs_other (F.ext.tab h) hv hT
  · refine keepS (F.sl j y h) fun zs ey q => ?_
    subst ey
    exact off.1 j zs h q
  · refine keepS (F.gh g hg).1 fun zs ey q => ?_
    have e1 : g.1 = .ref a := Option.some.inj (Option.some.inj q)
    exact off.2 g hg ⟨zs, ey⟩ e1
/-- values are held aside, and dropped -/
theorem Fr.aside (F : Fr T po Hb gs env H σ) {v : V} {x : AV} (h : SOk po Hb H (some (some v)) x) (hs : ∀ (i : Nat) (a : Addr) (xs ys : List PyData), v = .ref a → x = .l ys → env[i]? = some (.l xs) → σ[i]? ≠ some (some (.ref a))) : Fr T po Hb ((v, x) :: gs) env H σ :=
  ⟨F.ext, F.pen, F.len, F.sl, F.sep, fun g hg => by
    rcases List.mem_cons.mp hg with rfl | hg
    · exact ⟨h, hs⟩
    · exact F.gh g hg⟩
theorem Fr.asideD (F : Fr T po Hb gs env H σ) {v : V} {x : PyData} (h : Dt H v x) : Fr T po Hb ((v, .d x) :: gs) env H σ := F.aside ⟨v, rfl, h⟩ (fun _ _ _ _ _ q => nomatch q)
theorem Fr.drop {g : V × AV} (F : Fr T po Hb (g :: gs) env H σ) : Fr T po Hb gs env H σ := ⟨F.ext, F.pen, F.len, F.sl, F.sep, fun g' hg => F.gh g' (List.mem_cons_of_mem _ hg)⟩
theorem Fr.dat (F : Fr T po Hb gs env H σ) {i : Nat} {x : PyData} (h : env[i]? = some (.d x)) : ∃ v, σ[i]? = some (some v) ∧ Dt H v x := F.sl i _ h
theorem Fr.lst (F : Fr T po Hb gs env H σ) {i : Nat} {xs : List PyData} (h : env[i]? = some (.l xs)) : ∃ a vs, σ[i]? = some (some (.ref a)) ∧ Hb a = none ∧ H a = some (.lst vs) ∧ DtA H vs xs := F.sl i _ h
theorem Fr.klst (F : Fr T po Hb gs env H σ) {i : Nat} {xs : List PyData} (h : env[i]? = some (.k xs)) : ∃ a vs, σ[i]? = some (some (.ref a)) ∧ NP po a ∧ H a = some (.lst vs) ∧ DtA H vs xs := by
  obtain ⟨a, vs, h1, h2, h3, h4⟩ := F.sl i _ h
  exact ⟨a, vs, h1, h2, F.ext.lst h2 h3, h4.mono F.ext.tup⟩
theorem Fr.rf (F : Fr T po Hb gs env H σ) {i : Nat} {v : V} (h : env[i]? = some (.r v)) : σ[i]? = some (some v) := F.sl i _ h
end
/-- the frame at a def's entry -/
inductive Args (po : Option PenD) (H : Hp) : List V → List AV → Prop
  | nil : Args po H [] []
  | cons {v : V} {vs : List V} {x : AV} {xs : List AV} : SOk po H H (some (some v)) x → (∀ ys, x ≠ .l ys) → Args po H vs xs → Args po H (v :: vs) (x :: xs)
theorem Args.len {po : Option PenD} {H : Hp} : ∀ {vs : List V} {xs : List AV}, Args po H vs xs → vs.length = xs.length
  | _, _, .nil => rfl
  | _, _, .cons _ _ r => congrArg (· + 1) (Args.len r)
theorem Args.get {po : Option PenD} {H : Hp} : ∀ {vs : List V} {xs : List AV} {i : Nat} {x : AV}, Args po H vs xs → xs[i]? = some x → SOk po H H (vs[i]?.map some) x ∧ ∀ ys, x ≠ .l ys
  | _, _, _, _, .nil, e => by simp at e
  | _, _, 0, _, .cons h n _, e => by
    simp at e
    subst e
    exact ⟨h, n⟩
  | _, _, i + 1, x, .cons _ _ r, e => by
    have q := Args.get (i := i) (x := x) r (by simpa using e)
    simpa using q
theorem Fr.start {T : List (Addr × Str)} {po : Option PenD} {H : Hp} {vs : List V} {xs : List AV} {N : List Str} (hp : ∀ P, po = some P → Pen P H) (h : Args po H vs xs) (hl : vs.length ≤ N.length) :
    Fr T po H [] (xs ++ List.replicate (N.length - xs.length) .u) H (L2.start N vs) := by
  have hlen := h.len
  have look : ∀ {i : Nat} {x : AV}, (xs ++ List.replicate (N.length - xs.length) AV.u)[i]? = some x → (xs[i]? = some x) ∨ x = .u := fun {i x} e => by
    by_cases hi : i < xs.length
    · rw [List.getElem?_append_left hi] at e
      exact .inl e
    · rw [List.getElem?_append_right (Nat.le_of_not_lt hi)] at e
      exact .inr (List.eq_of_mem_replicate (List.mem_of_getElem? e))
  refine ⟨Ex.refl H, hp, ?_, fun i x e => ?_, fun i j a us zs _ h1 _ _ => ?_, fun g hg => absurd hg (by simp)⟩
  · unfold L2.start
    rw [List.length_append, List.length_append, List.length_map, List.length_replicate, List.length_replicate, hlen]
  · rcases look e with e | rfl
    · have hi : i < vs.length := by
        rw [hlen]
        exact (List.getElem?_eq_some_iff.mp e).1
      have q := (h.get e).1
      unfold L2.start
      rw [List.getElem?_append_left (by rw [List.length_map]; exact hi), List.getElem?_map]
      exact q
    · trivial
  · rcases look h1 with e | e
    · exact absurd rfl ((h.get e).2 us)
    · cases e
end K22
/-! KB: what expressions give, told by data over a frame. -/
namespace K22
open PySem PySem.Spec L2 LamX

def isNoneD : PyData → Bool
  | .none => true
  | _ => false
/-- an expression gives a datum of which Pd -/
def Ev (T : List (Addr × Str)) (po : Option PenD) (Hb : Hp) (gs : List (V × AV)) (env : List AV) (te : TE) (Pd : PyData → Prop) : Prop :=
  ∀ (σ : L2.St) (H : Hp), Fr T po Hb gs env H σ → ∀ Q : VK, (∀ v d H', Ex T po H H' → Fr T po Hb gs env H' σ → Dt H' v d → Pd d → Q v H') → te σ H Q
/-- .. this datum -/
def EvD (T : List (Addr × Str)) (po : Option PenD) (Hb : Hp) (gs : List (V × AV)) (env : List AV) (te : TE) (d : PyData) : Prop :=
  ∀ (σ : L2.St) (H : Hp), Fr T po Hb gs env H σ → ∀ Q : VK, (∀ v H', Ex T po H H' → Fr T po Hb gs env H' σ → Dt H' v d → Q v H') → te σ H Q
/-- .. a new list of data of which Pd -/
def EvL (T : List (Addr × Str)) (po : Option PenD) (Hb : Hp) (gs : List (V × AV)) (env : List AV) (te : TE) (Pd : List PyData → Prop) : Prop :=
  ∀ (σ : L2.St) (H : Hp), Fr T po Hb gs env H σ → ∀ Q : VK, (∀ a vs ds H', Ex T po H H' → Fr T po Hb gs env H' σ → H a = none → H' a = some (.lst vs) → DtA H' vs ds → Pd ds → Q (.ref a) H') → te σ H Q
/-- .. some list of these data, which is no pen (to be read) -/
def EvK (T : List (Addr × Str)) (po : Option PenD) (Hb : Hp) (gs : List (V × AV)) (env : List AV) (te : TE) (Pd : List PyData → Prop) : Prop :=
  ∀ (σ : L2.St) (H : Hp), Fr T po Hb gs env H σ → ∀ Q : VK, (∀ a vs ds H', Ex T po H H' → Fr T po Hb gs env H' σ → NP po a → H' a = some (.lst vs) → DtA H' vs ds → Pd ds → Q (.ref a) H') → te σ H Q
/-- a test -/
def EvT (T : List (Addr × Str)) (po : Option PenD) (Hb : Hp) (gs : List (V × AV)) (env : List AV) (tt : TT) (Pb : Bool → Prop) : Prop :=
  ∀ (σ : L2.St) (H : Hp), Fr T po Hb gs env H σ → ∀ Q : Bool → Hp → Prop, (∀ b H', Ex T po H H' → Fr T po Hb gs env H' σ → Pb b → Q b H') → tt σ H Q
/-- arguments, to be handed on -/
def EvA (T : List (Addr × Str)) (po : Option PenD) (Hb : Hp) (gs : List (V × AV)) (env : List AV) (ta : TA) (Pa : List AV → Prop) : Prop :=
  ∀ (σ : L2.St) (H : Hp), Fr T po Hb gs env H σ → ∀ Q : List V → Hp → Prop, (∀ vs xs H', Ex T po H H' → Fr T po Hb gs env H' σ → Args po H' vs xs → Pa xs → Q vs H') → ta σ H Q
/-- data, side by side -/
def EvU (T : List (Addr × Str)) (po : Option PenD) (Hb : Hp) (gs : List (V × AV)) (env : List AV) (ta : TA) (Pa : List PyData → Prop) : Prop :=
  ∀ (σ : L2.St) (H : Hp), Fr T po Hb gs env H σ → ∀ Q : List V → Hp → Prop, (∀ vs ds H', Ex T po H H' → Fr T po Hb gs env H' σ → DtA H' vs ds → Pa ds → Q vs H') → ta σ H Q
/-- a part of a slice -/
def EvO (T : List (Addr × Str)) (po : Option PenD) (Hb : Hp) (gs : List (V × AV)) (env : List AV) (to : TO) (o : Option Int) : Prop :=
  ∀ (σ : L2.St) (H : Hp), Fr T po Hb gs env H σ → ∀ Q : Option Int → Hp → Prop, (∀ H', Ex T po H H' → Fr T po Hb gs env H' σ → Q o H') → to σ H Q

theorem small24 {n : Nat} (h : n ≤ 16777216) : n ≤ sizeLine := by rw [sizeLine_eq]; exact h
theorem small24' {n : Nat} (h : n < 16777216) : n < sizeLine := by rw [sizeLine_eq]; exact h

section
variable {T : List (Addr × Str)} {po : Option PenD} {Hb : Hp} {gs : List (V × AV)} {env : List AV} {K : PySem.W.Frag} {ta tb te : TE} {t u : TT} {d e x y : PyData} {Pd Pe : PyData → Prop}

theorem EvD.ev (h : EvD T po Hb gs env te d) : Ev T po Hb gs env te (· = d) := fun σ H F Q q => h σ H F Q fun v H' e F' r => q v d H' e F' r rfl
theorem Ev.imp (h : Ev T po Hb gs env te Pd) (i : ∀ d, Pd d → Pe d) : Ev T po Hb gs env te Pe := fun σ H F Q q => h σ H F Q fun v d H' e F' r p => q v d H' e F' r (i d p)
theorem EvD.to (h : EvD T po Hb gs env te d) (i : d = e) : EvD T po Hb gs env te e := i ▸ h
theorem Ev.one (h : Ev T po Hb gs env te (· = d)) : EvD T po Hb gs env te d := fun σ H F Q q => h σ H F Q fun v d' H' e F' r p => q v H' e F' (p ▸ r)

theorem ev_v {i : Nat} (h : env[i]? = some (.d x)) : EvD T po Hb gs env (tVar i) x := fun σ H F Q q => by
  obtain ⟨v, h1, h2⟩ := F.dat h
  exact ⟨v, h1, q v H (Ex.refl H) F h2⟩
theorem ev_i {i : Int} : EvD T po Hb gs env (tC (.int i)) (.int i) := fun σ H F Q q => q _ H (Ex.refl H) F (.int i)
theorem ev_s {i : Str} : EvD T po Hb gs env (tC (.str i)) (.str i) := fun σ H F Q q => q _ H (Ex.refl H) F (.str i)
theorem ev_n : EvD T po Hb gs env (tC .non) .none := fun σ H F Q q => q _ H (Ex.refl H) F .non
theorem ev_b {b : Bool} : EvD T po Hb gs env (tC (.bl b)) (.bool b) := fun σ H F Q q => q _ H (Ex.refl H) F (.bl b)

/-! ### items -/
theorem ev_ix {ds : List PyData} {i : Int} (ha : EvD T po Hb gs env ta (.tuple ds)) (hb : EvD T po Hb gs env tb (.int i)) (h : atI ds i = some d) : EvD T po Hb gs env (tOp (rIxT K) ta tb) d := fun σ H F Q q => by
  refine ha σ H F _ fun v H1 e1 F1 r1 => hb σ H1 F1 _ fun w H2 e2 F2 r2 => ?_
  obtain ⟨a, xs, rfl, h1, h2⟩ := (r1.mono e2.tup).t
  obtain rfl := r2.i
  obtain ⟨z, h3, h4⟩ := h2.at h
  exact ⟨a, xs, i, z, rfl, rfl, SqT.of h1, h3, q z H2 (e1.trans e2) F2 h4⟩
theorem ev_ixX {ds : List PyData} {Pi : PyData → Prop} (ha : EvD T po Hb gs env ta (.tuple ds)) (hb : Ev T po Hb gs env tb Pi) (h : ∀ y, Pi y → ∃ (i : Int) (d : PyData), y = .int i ∧ atI ds i = some d ∧ Pd d) : Ev T po Hb gs env (tOp (rIxT K) ta tb) Pd := fun σ H F Q q => by
  refine ha σ H F _ fun v H1 e1 F1 r1 => hb σ H1 F1 _ fun w y H2 e2 F2 r2 p2 => ?_
  obtain ⟨a, xs, rfl, h1, h2⟩ := (r1.mono e2.tup).t
  obtain ⟨i, d, rfl, hi, hp⟩ := h y p2
  obtain rfl := r2.i
  obtain ⟨z, h3, h4⟩ := h2.at hi
  exact ⟨a, xs, i, z, rfl, rfl, SqT.of h1, h3, q z d H2 (e1.trans e2) F2 h4 hp⟩
theorem ev_ixK {ds : List PyData} {i : Int} (ha : EvK T po Hb gs env ta (· = ds)) (hb : EvD T po Hb gs env tb (.int i)) (h : atI ds i = some d) : EvD T po Hb gs env (tOp (rIxL K) ta tb) d := fun σ H F Q q => by
  refine ha σ H F _ fun a vs ds' H1 e1 F1 np h1 r1 e0 => hb σ H1 F1 _ fun w H2 e2 F2 r2 => ?_
  subst e0
  obtain rfl := r2.i
  obtain ⟨z, h3, h4⟩ := (r1.mono e2.tup).at h
  exact ⟨a, vs, i, z, rfl, rfl, SqL.of (e2.lst np h1), h3, q z H2 (e1.trans e2) F2 h4⟩
theorem ev_ixKX {Pl : List PyData → Prop} {Pi : PyData → Prop} (ha : EvK T po Hb gs env ta Pl) (hb : Ev T po Hb gs env tb Pi) (h : ∀ ds y, Pl ds → Pi y → ∃ (i : Int) (d : PyData), y = .int i ∧ atI ds i = some d ∧ Pd d) : Ev T po Hb gs env (tOp (rIxL K) ta tb) Pd := fun σ H F Q q => by
  refine ha σ H F _ fun a vs ds' H1 e1 F1 np h1 r1 e0 => hb σ H1 F1 _ fun w y H2 e2 F2 r2 p2 => ?_
  obtain ⟨i, d, rfl, hi, hp⟩ := h ds' y e0 p2
  obtain rfl := r2.i
  obtain ⟨z, h3, h4⟩ := (r1.mono e2.tup).at hi
  exact ⟨a, vs, i, z, rfl, rfl, SqL.of (e2.lst np h1), h3, q z d H2 (e1.trans e2) F2 h4 hp⟩

/-! ### numbers -/
theorem ev_I0 {g : Int → Int → V} {r : Int → Int → PyData} {i j : Int} (hg : ∀ (H : Hp) i j, Dt H (g i j) (r i j)) (ha : EvD T po Hb gs env ta (.int i)) (hb : EvD T po Hb gs env tb (.int j)) : EvD T po Hb gs env (tOp (rI0 g) ta tb) (r i j) := fun σ H F Q q => by
  refine ha σ H F _ fun v H1 e1 F1 r1 => hb σ H1 F1 _ fun w H2 e2 F2 r2 => ?_
  obtain rfl := r1.i
  obtain rfl := r2.i
  exact ⟨i, j, rfl, rfl, q _ H2 (e1.trans e2) F2 (hg _ _ _)⟩
theorem ev_add {i j : Int} (ha : EvD T po Hb gs env ta (.int i)) (hb : EvD T po Hb gs env tb (.int j)) : EvD T po Hb gs env (tOp (rI0 fun i j => .int (i + j)) ta tb) (.int (i + j)) := ev_I0 (r := fun i j => .int (i + j)) (fun _ _ _ => .int _) ha hb
theorem ev_sub {i j : Int} (ha : EvD T po Hb gs env ta (.int i)) (hb : EvD T po Hb gs env tb (.int j)) : EvD T po Hb gs env (tOp (rI0 fun i j => .int (i - j)) ta tb) (.int (i - j)) := ev_I0 (r := fun i j => .int (i - j)) (fun _ _ _ => .int _) ha hb
theorem ev_lt {i j : Int} (ha : EvD T po Hb gs env ta (.int i)) (hb : EvD T po Hb gs env tb (.int j)) : EvD T po Hb gs env (tOp (rI0 fun i j => .bl (decide (i < j))) ta tb) (.bool (decide (i < j))) := ev_I0 (r := fun i j => .bool (decide (i < j))) (fun _ _ _ => .bl _) ha hb
theorem ev_gt {i j : Int} (ha : EvD T po Hb gs env ta (.int i)) (hb : EvD T po Hb gs env tb (.int j)) : EvD T po Hb gs env (tOp (rI0 fun i j => .bl (decide (j < i))) ta tb) (.bool (decide (j < i))) := ev_I0 (r := fun i j => .bool (decide (j < i))) (fun _ _ _ => .bl _) ha hb
theorem ev_ge {i j : Int} (ha : EvD T po Hb gs env ta (.int i)) (hb : EvD T po Hb gs env tb (.int j)) : EvD T po Hb gs env (tOp (rI0 fun i j => .bl (decide (j ≤ i))) ta tb) (.bool (decide (j ≤ i))) := ev_I0 (r := fun i j => .bool (decide (j ≤ i))) (fun _ _ _ => .bl _) ha hb
/-- .. of some numbers -/
theorem ev_I0X {g : Int → Int → V} {r : Int → Int → PyData} {Pi Pj : PyData → Prop} (hg : ∀ (H : Hp) i j, Dt H (g i j) (r i j)) (ha : Ev T po Hb gs env ta Pi) (hb : Ev T po Hb gs env tb Pj) (h : ∀ x y, Pi x → Pj y → ∃ i j, x = .int i ∧ y = .int j ∧ Pd (r i j)) : Ev T po Hb gs env (tOp (rI0 g) ta tb) Pd := fun σ H F Q q => by
  refine ha σ H F _ fun v x H1 e1 F1 r1 p1 => hb σ H1 F1 _ fun w y H2 e2 F2 r2 p2 => ?_
  obtain ⟨i, j, rfl, rfl, hp⟩ := h x y p1 p2
  obtain rfl := r1.i
  obtain rfl := r2.i
  exact ⟨i, j, rfl, rfl, q _ _ H2 (e1.trans e2) F2 (hg _ _ _) hp⟩
theorem ev_I {C : Int → Int → Prop} {g : Int → Int → V} {r : Int → Int → PyData} {Pi Pj : PyData → Prop} (hg : ∀ (H : Hp) i j, Dt H (g i j) (r i j)) (ha : Ev T po Hb gs env ta Pi) (hb : Ev T po Hb gs env tb Pj) (h : ∀ x y, Pi x → Pj y → ∃ i j, x = .int i ∧ y = .int j ∧ C i j ∧ Pd (r i j)) : Ev T po Hb gs env (tOp (rI C g) ta tb) Pd := fun σ H F Q q => by
  refine ha σ H F _ fun v x H1 e1 F1 r1 p1 => hb σ H1 F1 _ fun w y H2 e2 F2 r2 p2 => ?_
  obtain ⟨i, j, rfl, rfl, hc, hp⟩ := h x y p1 p2
  obtain rfl := r1.i
  obtain rfl := r2.i
  exact ⟨i, j, rfl, rfl, hc, q _ _ H2 (e1.trans e2) F2 (hg _ _ _) hp⟩
theorem ev_modN {i j : Int} (hj : j ≠ 0) (ha : EvD T po Hb gs env ta (.int i)) (hb : EvD T po Hb gs env tb (.int j)) : EvD T po Hb gs env (tOp (rI (fun _ j => j ≠ 0) fun i j => .int (i.fmod j)) ta tb) (.int (i.fmod j)) :=
  Ev.one (ev_I (r := fun i j => .int (i.fmod j)) (fun _ _ _ => .int _) ha.ev hb.ev fun _ _ e1 e2 => ⟨i, j, e1, e2, hj, rfl⟩)

/-! ### == and != -/
theorem ev_eqS {v w : V} (hd : ∀ (H : Hp) z, Dt H z d → z = v) (he : ∀ (H : Hp) z, Dt H z e → z = w) (hs : scal v w = true) (ha : EvD T po Hb gs env ta d) (hb : EvD T po Hb gs env tb e) : EvD T po Hb gs env (tOp rEq ta tb) (.bool (decide (v = w))) := fun σ H F Q q => by
  refine ha σ H F _ fun z H1 e1 F1 r1 => hb σ H1 F1 _ fun z' H2 e2 F2 r2 => ?_
  obtain rfl := hd _ _ r1
  obtain rfl := he _ _ r2
  exact ⟨hs, q _ H2 (e1.trans e2) F2 (.bl _)⟩
theorem ev_neS {v w : V} (hd : ∀ (H : Hp) z, Dt H z d → z = v) (he : ∀ (H : Hp) z, Dt H z e → z = w) (hs : scal v w = true) (ha : EvD T po Hb gs env ta d) (hb : EvD T po Hb gs env tb e) : EvD T po Hb gs env (tOp rNe ta tb) (.bool (!decide (v = w))) := fun σ H F Q q => by
  refine ha σ H F _ fun z H1 e1 F1 r1 => hb σ H1 F1 _ fun z' H2 e2 F2 r2 => ?_
  obtain rfl := hd _ _ r1
  obtain rfl := he _ _ r2
  exact ⟨hs, q _ H2 (e1.trans e2) F2 (.bl _)⟩
theorem ev_eqI {i j : Int} (ha : EvD T po Hb gs env ta (.int i)) (hb : EvD T po Hb gs env tb (.int j)) : EvD T po Hb gs env (tOp rEq ta tb) (.bool (decide (i = j))) :=
  (ev_eqS (v := .int i) (w := .int j) (fun _ _ h => h.i) (fun _ _ h => h.i) rfl ha hb).to (by congr 1; rw [dec_int, Bool.beq_eq_decide_eq])
theorem ev_neI {i j : Int} (ha : EvD T po Hb gs env ta (.int i)) (hb : EvD T po Hb gs env tb (.int j)) : EvD T po Hb gs env (tOp rNe ta tb) (.bool (!decide (i = j))) :=
  (ev_neS (v := .int i) (w := .int j) (fun _ _ h => h.i) (fun _ _ h => h.i) rfl ha hb).to (by congr 2; rw [dec_int, Bool.beq_eq_decide_eq])
theorem ev_eqStr {i j : Str} (ha : EvD T po Hb gs env ta (.str i)) (hb : EvD T po Hb gs env tb (.str j)) : EvD T po Hb gs env (tOp rEq ta tb) (.bool (decide (i = j))) :=
  (ev_eqS (v := .str i) (w := .str j) (fun _ _ h => h.s) (fun _ _ h => h.s) rfl ha hb).to (by congr 1; rw [dec_str, Bool.beq_eq_decide_eq])
theorem ev_eqD (ha : EvD T po Hb gs env ta d) (hb : EvD T po Hb gs env tb e) (hd : SeqAt.shaped d = true) (he : SeqAt.shaped e = true) : EvD T po Hb gs env (tOp (rEqD K) ta tb) (.bool (PyData.eqv d e)) := fun σ H F Q q => by
  refine ha σ H F _ fun z H1 e1 F1 r1 => hb σ H1 F1 _ fun z' H2 e2 F2 r2 => ?_
  exact ⟨d, e, (r1.mono e2.tup).dp (shaped_lay hd), r2.dp (shaped_lay he), hd, he, q _ H2 (e1.trans e2) F2 (.bl _)⟩
theorem ev_neD (ha : EvD T po Hb gs env ta d) (hb : EvD T po Hb gs env tb e) (hd : SeqAt.shaped d = true) (he : SeqAt.shaped e = true) : EvD T po Hb gs env (tOp (rNeD K) ta tb) (.bool (!PyData.eqv d e)) := fun σ H F Q q => by
  refine ha σ H F _ fun z H1 e1 F1 r1 => hb σ H1 F1 _ fun z' H2 e2 F2 r2 => ?_
  exact ⟨d, e, (r1.mono e2.tup).dp (shaped_lay hd), r2.dp (shaped_lay he), hd, he, q _ H2 (e1.trans e2) F2 (.bl _)⟩
/-- a list that is read, and a new empty one -/
theorem ev_neL {Pl : List PyData → Prop} (ha : EvK T po Hb gs env ta Pl) (hs : ∀ ds, Pl ds → SeqAt.shaped (.list ds) = true) : Ev T po Hb gs env (tOp (rNeD K) ta (tLst tNil)) fun x => ∃ ds, Pl ds ∧ x = .bool (!ds.isEmpty) := fun σ H F Q q => by
  refine ha σ H F _ fun a vs ds H1 e1 F1 np h1 r1 p1 => ?_
  refine ⟨Nat.zero_le _, fun b hb => ?_⟩
  have e2 : Ex T po H1 (upd H1 b (.lst [])) := Ex.new hb
  refine ⟨.list ds, .list [], .lst (SqL.of (e2.lst np h1)) ((r1.mono e2.tup).dp (shaped_lay (hs ds p1))), .lst (SqL.of upd_same) .nil, hs ds p1, rfl, ?_⟩
  have e0 : PyData.eqv (.list ds) (.list []) = ds.isEmpty := by cases ds <;> rfl
  rw [e0]
  exact q _ _ _ (e1.trans e2) (F1.mono e2) (.bl _) ⟨ds, p1, rfl⟩
theorem ev_eqL {Pl : List PyData → Prop} (ha : EvK T po Hb gs env ta Pl) (hs : ∀ ds, Pl ds → SeqAt.shaped (.list ds) = true) : Ev T po Hb gs env (tOp (rEqD K) ta (tLst tNil)) fun x => ∃ ds, Pl ds ∧ x = .bool ds.isEmpty := fun σ H F Q q => by
  refine ha σ H F _ fun a vs ds H1 e1 F1 np h1 r1 p1 => ?_
  refine ⟨Nat.zero_le _, fun b hb => ?_⟩
  have e2 : Ex T po H1 (upd H1 b (.lst [])) := Ex.new hb
  refine ⟨.list ds, .list [], .lst (SqL.of (e2.lst np h1)) ((r1.mono e2.tup).dp (shaped_lay (hs ds p1))), .lst (SqL.of upd_same) .nil, hs ds p1, rfl, ?_⟩
  have e0 : PyData.eqv (.list ds) (.list []) = ds.isEmpty := by cases ds <;> rfl
  rw [e0]
  exact q _ _ _ (e1.trans e2) (F1.mono e2) (.bl _) ⟨ds, p1, rfl⟩
theorem ev_isN (h0 : EvD T po Hb gs env ta d) : EvD T po Hb gs env (tIsN ta) (.bool (isNoneD d)) := fun σ H F Q q => by
  refine h0 σ H F _ fun z H1 e1 F1 r1 => ?_
  refine q _ _ e1 F1 ?_
  cases r1 with
  | non => exact .bl _
  | bl _ => exact .bl _
  | int _ => exact .bl _
  | str _ => exact .bl _
  | tup _ _ => exact .bl _
  | fz _ _ _ => exact .bl _

/-! ### tests -/
theorem EvT.imp {Pb Pc : Bool → Prop} (h : EvT T po Hb gs env t Pb) (i : ∀ b, Pb b → Pc b) : EvT T po Hb gs env t Pc := fun σ H F Q q => h σ H F Q fun b H' e F' p => q b H' e F' (i b p)
theorem et {b : Bool} (h : EvD T po Hb gs env te (.bool b)) : EvT T po Hb gs env (tTest te) (· = b) := fun σ H F Q q => h σ H F _ fun v H' e F' r => ⟨b, r.b, q b H' e F' rfl⟩
theorem etB {b : Bool} (h : EvD T po Hb gs env te (.bool b)) : EvT T po Hb gs env (tB te) (· = b) := fun σ H F Q q => h σ H F _ fun v H' e F' r => ⟨b, r.b, q b H' e F' rfl⟩
theorem etX {Pb : Bool → Prop} (h : Ev T po Hb gs env te fun d => ∃ b, d = .bool b ∧ Pb b) : EvT T po Hb gs env (tTest te) Pb := fun σ H F Q q => h σ H F _ fun v d H' e F' r ⟨b, e1, p⟩ => by
  subst e1
  exact ⟨b, r.b, q b H' e F' p⟩
theorem et_and {Pa Pb Pc : Bool → Prop} (h1 : EvT T po Hb gs env t Pa) (h2 : Pa true → EvT T po Hb gs env u Pb) (hf : Pa false → Pc false) (ht : Pa true → ∀ b, Pb b → Pc b) : EvT T po Hb gs env (tAnd t u) Pc := fun σ H F Q q => by
  refine h1 σ H F _ fun b H1 e1 F1 p1 => ?_
  cases b with
  | true =>
    show u σ H1 Q
    exact h2 p1 σ H1 F1 Q fun b H2 e2 F2 p2 => q b H2 (e1.trans e2) F2 (ht p1 b p2)
  | false =>
    show Q false H1
    exact q false H1 e1 F1 (hf p1)
theorem et_or {Pa Pb Pc : Bool → Prop} (h1 : EvT T po Hb gs env t Pa) (h2 : Pa false → EvT T po Hb gs env u Pb) (ht : Pa true → Pc true) (hf : Pa false → ∀ b, Pb b → Pc b) : EvT T po Hb gs env (tOr t u) Pc := fun σ H F Q q => by
  refine h1 σ H F _ fun b H1 e1 F1 p1 => ?_
  cases b with
  | true =>
    show Q true H1
    exact q true H1 e1 F1 (ht p1)
  | false =>
    show u σ H1 Q
    exact h2 p1 σ H1 F1 Q fun b H2 e2 F2 p2 => q b H2 (e1.trans e2) F2 (hf p1 b p2)
theorem ev_if {Pb : Bool → Prop} (h : EvT T po Hb gs env t Pb) (h1 : Pb true → Ev T po Hb gs env ta Pd) (h2 : Pb false → Ev T po Hb gs env tb Pd) : Ev T po Hb gs env (tIf t ta tb) Pd := fun σ H F Q q => by
  refine h σ H F _ fun b H1 e1 F1 p1 => ?_
  cases b with
  | true =>
    show ta σ H1 Q
    exact h1 p1 σ H1 F1 Q fun v d H2 e2 F2 r p => q v d H2 (e1.trans e2) F2 r p
  | false =>
    show tb σ H1 Q
    exact h2 p1 σ H1 F1 Q fun v d H2 e2 F2 r p => q v d H2 (e1.trans e2) F2 r p
theorem el_if {Pb : Bool → Prop} {Pl : List PyData → Prop} (h : EvT T po Hb gs env t Pb) (h1 : Pb true → EvL T po Hb gs env ta Pl) (h2 : Pb false → EvL T po Hb gs env tb Pl) : EvL T po Hb gs env (tIf t ta tb) Pl := fun σ H F Q q => by
  refine h σ H F _ fun b H1 e1 F1 p1 => ?_
  cases b with
  | true =>
    show ta σ H1 Q
    exact h1 p1 σ H1 F1 Q fun a vs ds H2 e2 F2 n h r p => q a vs ds H2 (e1.trans e2) F2 (e1.dom a n) h r p
  | false =>
    show tb σ H1 Q
    exact h2 p1 σ H1 F1 Q fun a vs ds H2 e2 F2 n h r p => q a vs ds H2 (e1.trans e2) F2 (e1.dom a n) h r p
theorem ek_if {Pb : Bool → Prop} {Pl : List PyData → Prop} (h : EvT T po Hb gs env t Pb) (h1 : Pb true → EvK T po Hb gs env ta Pl) (h2 : Pb false → EvK T po Hb gs env tb Pl) : EvK T po Hb gs env (tIf t ta tb) Pl := fun σ H F Q q => by
  refine h σ H F _ fun b H1 e1 F1 p1 => ?_
  cases b with
  | true =>
    show ta σ H1 Q
    exact h1 p1 σ H1 F1 Q fun a vs ds H2 e2 F2 n h r p => q a vs ds H2 (e1.trans e2) F2 n h r p
  | false =>
    show tb σ H1 Q
    exact h2 p1 σ H1 F1 Q fun a vs ds H2 e2 F2 n h r p => q a vs ds H2 (e1.trans e2) F2 n h r p

/-! ### side by side: tuples, lists, arguments -/
variable {tr : TA}
theorem eu_nil : EvU T po Hb gs env tNil (· = []) := fun σ H F Q q => q [] [] H (Ex.refl H) F .nil rfl
theorem eu_cons {Pr : List PyData → Prop} (h : Ev T po Hb gs env ta Pd) (hr : EvU T po Hb gs env tr Pr) : EvU T po Hb gs env (tCons ta tr) (fun l => ∃ d r, l = d :: r ∧ Pd d ∧ Pr r) := fun σ H F Q q =>
  h σ H F _ fun v d H1 e1 F1 r1 p1 => hr σ H1 F1 _ fun vs ds H2 e2 F2 r2 p2 => q _ _ H2 (e1.trans e2) F2 (.cons (r1.mono e2.tup) r2) ⟨d, ds, rfl, p1, p2⟩
theorem eu_c {ds : List PyData} (h : EvD T po Hb gs env ta d) (hr : EvU T po Hb gs env tr (· = ds)) : EvU T po Hb gs env (tCons ta tr) (· = d :: ds) := fun σ H F Q q =>
  h σ H F _ fun v H1 e1 F1 r1 => hr σ H1 F1 _ fun vs ds' H2 e2 F2 r2 p2 => q _ _ H2 (e1.trans e2) F2 (.cons (r1.mono e2.tup) r2) (by rw [p2])
theorem ev_tupX {Pr : List PyData → Prop} (h : EvU T po Hb gs env tr Pr) (hl : ∀ ds, Pr ds → ds.length ≤ 1000) : Ev T po Hb gs env (tTup tr) (fun d => ∃ ds, d = .tuple ds ∧ Pr ds) := fun σ H F Q q =>
  h σ H F _ fun vs ds H1 e1 F1 r1 p1 => ⟨small24 (by rw [r1.len]; exact Nat.le_trans (hl ds p1) (by decide)), fun p hp => by
    have e2 : Ex T po H1 (upd H1 p (.tup vs)) := Ex.new hp
    exact q _ _ _ (e1.trans e2) (F1.mono e2) (.tup upd_same (r1.mono e2.tup)) ⟨ds, rfl, p1⟩⟩
theorem ev_tup {ds : List PyData} (h : EvU T po Hb gs env tr (· = ds)) (hl : ds.length ≤ 1000 := by exact Nat.le_of_ble_eq_true rfl) : EvD T po Hb gs env (tTup tr) (.tuple ds) :=
  Ev.one ((ev_tupX h fun ds' e => by rw [e]; exact hl).imp fun d ⟨ds', e1, e2⟩ => by rw [e1, e2])
theorem el_lst {Pr : List PyData → Prop} (h : EvU T po Hb gs env tr Pr) (hl : ∀ ds, Pr ds → ds.length ≤ 1000) : EvL T po Hb gs env (tLst tr) Pr := fun σ H F Q q =>
  h σ H F _ fun vs ds H1 e1 F1 r1 p1 => ⟨small24 (by rw [r1.len]; exact Nat.le_trans (hl ds p1) (by decide)), fun p hp => by
    have e2 : Ex T po H1 (upd H1 p (.lst vs)) := Ex.new hp
    exact q _ _ _ _ (e1.trans e2) (F1.mono e2) (e1.dom p hp) upd_same (r1.mono e2.tup) p1⟩
theorem EvL.k {Pl : List PyData → Prop} (h : EvL T po Hb gs env te Pl) : EvK T po Hb gs env te Pl := fun σ H F Q q =>
  h σ H F _ fun a vs ds H1 e1 F1 n h1 r1 p1 => q a vs ds H1 e1 F1 (fun P hP z => by
    have w := (F.penNow P hP).some
    rw [← z, n] at w
    cases w) h1 r1 p1
theorem EvL.imp {Pl Pm : List PyData → Prop} (h : EvL T po Hb gs env te Pl) (i : ∀ ds, Pl ds → Pm ds) : EvL T po Hb gs env te Pm := fun σ H F Q q => h σ H F Q fun a vs ds H' e F' n h r p => q a vs ds H' e F' n h r (i ds p)
theorem EvK.imp {Pl Pm : List PyData → Prop} (h : EvK T po Hb gs env te Pl) (i : ∀ ds, Pl ds → Pm ds) : EvK T po Hb gs env te Pm := fun σ H F Q q => h σ H F Q fun a vs ds H' e F' n h r p => q a vs ds H' e F' n h r (i ds p)
theorem ek_l {i : Nat} {xs : List PyData} (h : env[i]? = some (.l xs)) : EvK T po Hb gs env (tVar i) (· = xs) := fun σ H F Q q => by
  obtain ⟨a, vs, h1, h0, h2, h3⟩ := F.lst h
  exact ⟨.ref a, h1, q a vs xs H (Ex.refl H) F (F.notPen h0) h2 h3 rfl⟩
theorem ek_k {i : Nat} {xs : List PyData} (h : env[i]? = some (.k xs)) : EvK T po Hb gs env (tVar i) (· = xs) := fun σ H F Q q => by
  obtain ⟨a, vs, h1, h0, h2, h3⟩ := F.klst h
  exact ⟨.ref a, h1, q a vs xs H (Ex.refl H) F h0 h2 h3 rfl⟩
/-- arguments -/
theorem ea_nil : EvA T po Hb gs env tNil (· = []) := fun σ H F Q q => q [] [] H (Ex.refl H) F .nil rfl
theorem Args.mono {H H' : Hp} (e : Ex T po H H') (hp : ∀ P, po = some P → Pen P H) : ∀ {vs : List V} {xs : List AV}, Args po H vs xs → Args po H' vs xs
  | _, _, .nil => .nil
  | _, _, .cons (x := x) h n r => by
    refine .cons ?_ n (Args.mono e hp r)
    cases x with
    | u => trivial
    | d x =>
      obtain ⟨v, h1, h2⟩ := h
      exact ⟨v, h1, h2.mono e.tup⟩
    | l xs => exact absurd rfl (n xs)
    | k xs =>
      obtain ⟨a, vs, h1, h2, h3, h4⟩ := h
      exact ⟨a, vs, h1, h2, e.lst h2 h3, h4.mono e.tup⟩
    | r v => exact h
theorem ea_cons {Pr : List AV → Prop} (h : Ev T po Hb gs env ta Pd) (hr : EvA T po Hb gs env tr Pr) : EvA T po Hb gs env (tCons ta tr) (fun l => ∃ d r, l = .d d :: r ∧ Pd d ∧ Pr r) := fun σ H F Q q =>
  h σ H F _ fun v d H1 e1 F1 r1 p1 => hr σ H1 F1 _ fun vs ds H2 e2 F2 r2 p2 => q _ _ H2 (e1.trans e2) F2 (.cons (x := .d d) ⟨v, rfl, r1.mono e2.tup⟩ (fun _ q => nomatch q) r2) ⟨d, ds, rfl, p1, p2⟩
theorem ea_c {xs : List AV} (h : EvD T po Hb gs env ta d) (hr : EvA T po Hb gs env tr (· = xs)) : EvA T po Hb gs env (tCons ta tr) (· = .d d :: xs) := fun σ H F Q q =>
  h σ H F _ fun v H1 e1 F1 r1 => hr σ H1 F1 _ fun vs ds H2 e2 F2 r2 p2 => q _ _ H2 (e1.trans e2) F2 (.cons (x := .d d) ⟨v, rfl, r1.mono e2.tup⟩ (fun _ q => nomatch q) r2) (by rw [p2])
theorem ea_k {xs : List AV} {ds : List PyData} (h : EvK T po Hb gs env ta (· = ds)) (hr : EvA T po Hb gs env tr (· = xs)) : EvA T po Hb gs env (tCons ta tr) (· = .k ds :: xs) := fun σ H F Q q =>
  h σ H F _ fun a vs ds' H1 e1 F1 np h1 r1 p1 => hr σ H1 F1 _ fun ws zs H2 e2 F2 r2 p2 => q _ _ H2 (e1.trans e2) F2 (.cons (x := .k ds) ⟨a, vs, rfl, np, e2.lst np h1, by rw [← p1]; exact r1.mono e2.tup⟩ (fun _ q => nomatch q) r2) (by rw [p2])
theorem ea_r {xs : List AV} {i : Nat} {v : V} (h : env[i]? = some (.r v)) (hr : EvA T po Hb gs env tr (· = xs)) : EvA T po Hb gs env (tCons (tVar i) tr) (· = .r v :: xs) := fun σ H F Q q =>
  ⟨v, F.rf h, hr σ H F _ fun vs ds H2 e2 F2 r2 p2 => q _ _ H2 e2 F2 (.cons (x := .r v) rfl (fun _ q => nomatch q) r2) (by rw [p2])⟩

/-! ### built-ins -/
theorem ev_lenT {ds : List PyData} (h : EvD T po Hb gs env ta (.tuple ds)) : EvD T po Hb gs env (tCB (fun xs H Q => ∃ p ys, xs = [.ref p] ∧ (SqL K H p ys ∨ SqT K H p ys) ∧ Q (.int ys.length) H) (tCons ta tNil)) (.int ds.length) := fun σ H F Q q => by
  refine h σ H F _ fun v H1 e1 F1 r1 => ?_
  obtain ⟨a, xs, rfl, h1, h2⟩ := r1.t
  exact ⟨a, xs, rfl, .inr (SqT.of h1), by rw [h2.len]; exact q _ H1 e1 F1 (.int _)⟩
theorem ev_lenK {Pl : List PyData → Prop} (h : EvK T po Hb gs env ta Pl) : Ev T po Hb gs env (tCB (fun xs H Q => ∃ p ys, xs = [.ref p] ∧ (SqL K H p ys ∨ SqT K H p ys) ∧ Q (.int ys.length) H) (tCons ta tNil)) (fun x => ∃ ds, Pl ds ∧ x = .int (ds.length : Nat)) := fun σ H F Q q => by
  refine h σ H F _ fun a vs ds H1 e1 F1 np h1 r1 p1 => ?_
  exact ⟨a, vs, rfl, .inl (SqL.of h1), q _ _ H1 e1 F1 (.int _) ⟨ds, p1, by rw [r1.len]⟩⟩
/-- tuple(a list) -/
theorem ev_tuple {Pl : List PyData → Prop} (h : EvK T po Hb gs env ta Pl) : Ev T po Hb gs env (tThen ta (kTup K)) (fun x => ∃ ds, Pl ds ∧ x = .tuple ds) := fun σ H F Q q => by
  refine h σ H F _ fun a vs ds H1 e1 F1 np h1 r1 p1 => ?_
  refine .inl ⟨a, vs, rfl, SqL.of h1, fun p hp => ?_⟩
  have e2 : Ex T po H1 (upd H1 p (.tup vs)) := Ex.new hp
  exact q _ _ _ (e1.trans e2) (F1.mono e2) (.tup upd_same (r1.mono e2.tup)) ⟨ds, p1, rfl⟩
/-- int(x) of a number -/
theorem ev_int {Pi : PyData → Prop} (h : Ev T po Hb gs env ta Pi) (hi : ∀ x, Pi x → ∃ i, x = .int i) : Ev T po Hb gs env (tCB (fun xs H Q => (∃ i, xs = [.int i] ∧ Q (.int i) H) ∨ ∃ k, xs = [.bl k] ∧ Q (.int (if k then 1 else 0)) H) (tCons ta tNil)) Pi := fun σ H F Q q => by
  refine h σ H F _ fun v d H1 e1 F1 r1 p1 => ?_
  obtain ⟨i, rfl⟩ := hi d p1
  obtain rfl := r1.i
  exact .inl ⟨i, rfl, q _ _ H1 e1 F1 (.int i) p1⟩
/-- list(a tuple), list(a list) -/
theorem el_listT {ds : List PyData} (h : EvD T po Hb gs env ta (.tuple ds)) : EvL T po Hb gs env (tCB (fun xs H Q => ∃ p ys, xs = [.ref p] ∧ (SqL K H p ys ∨ SqT K H p ys) ∧ ∀ l, H l = none → Q (.ref l) (upd H l (.lst ys))) (tCons ta tNil)) (· = ds) := fun σ H F Q q => by
  refine h σ H F _ fun v H1 e1 F1 r1 => ?_
  obtain ⟨a, xs, rfl, h1, h2⟩ := r1.t
  refine ⟨a, xs, rfl, .inr (SqT.of h1), fun l hl => ?_⟩
  have e2 : Ex T po H1 (upd H1 l (.lst xs)) := Ex.new hl
  exact q _ _ _ _ (e1.trans e2) (F1.mono e2) (e1.dom l hl) upd_same (h2.mono e2.tup) rfl
/-- list + list -/
theorem el_cat {Pl Pm : List PyData → Prop} (ha : EvL T po Hb gs env ta Pl) (hb : EvL T po Hb gs env tb Pm) (hl : ∀ xs ys, Pl xs → Pm ys → xs.length + ys.length ≤ 16777216) : EvL T po Hb gs env (tOp rCat ta tb) (fun l => ∃ xs ys, l = xs ++ ys ∧ Pl xs ∧ Pm ys) := fun σ H F Q q => by
  refine ha σ H F _ fun a vs ds H1 e1 F1 n1 h1 r1 p1 => hb σ H1 F1 _ fun b ws es H2 e2 F2 n2 h2 r2 p2 => ?_
  have np : NP po a := fun P hP z => by
    have w := (F.penNow P hP).some
    rw [← z, n1] at w
    cases w
  refine ⟨a, b, vs, ws, rfl, rfl, e2.lst np h1, h2, small24 (by rw [r1.len, r2.len]; exact hl _ _ p1 p2), fun p hp => ?_⟩
  have e3 : Ex T po H2 (upd H2 p (.lst (vs ++ ws))) := Ex.new hp
  exact q _ _ _ _ ((e1.trans e2).trans e3) (F2.mono e3) (e1.dom p (e2.dom p hp)) upd_same (DtA.app ((r1.mono e2.tup).mono e3.tup) (r2.mono e3.tup)) ⟨ds, es, rfl, p1, p2⟩

/-! ### slices, + of tuples -/
theorem eo_none : EvO T po Hb gs env tNoPart none := fun σ H F Q q => q H (Ex.refl H) F
theorem eo_some {i : Int} (h : EvD T po Hb gs env te (.int i)) : EvO T po Hb gs env (tPart te) (some i) := fun σ H F Q q => h σ H F _ fun v H' e F' r => ⟨i, r.i, q H' e F'⟩
/-- the data of a slice -/
def cutD (xs : List PyData) (lo hi : Option Int) : List PyData := (xs.drop (HT.sIx xs.length 0 lo)).take (HT.sIx xs.length xs.length hi - HT.sIx xs.length 0 lo)
theorem cut_dt {H : Hp} {vs : List V} {ds : List PyData} (r : DtA H vs ds) (lo hi : Option Int) : DtA H (cutV vs lo hi) (cutD ds lo hi) := by
  unfold cutV cutD
  rw [r.len]
  exact (r.drop _).take _
theorem cut_whole {ds : List PyData} {lo hi : Option Int} (h : HT.sIx ds.length 0 lo = 0 ∧ HT.sIx ds.length ds.length hi = ds.length) : cutD ds lo hi = ds := by
  unfold cutD
  rw [h.1, h.2]
  simp
theorem ev_slT {tl th : TO} {lo hi : Option Int} {ds : List PyData} (h : EvD T po Hb gs env te (.tuple ds)) (h1 : EvO T po Hb gs env tl lo) (h2 : EvO T po Hb gs env th hi) : EvD T po Hb gs env (tSl (rSlA K) te tl th) (.tuple (cutD ds lo hi)) := fun σ H F Q q => by
  refine h σ H F _ fun v H1 e1 F1 r1 => h1 σ H1 F1 _ fun H2 e2 F2 => h2 σ H2 F2 _ fun H3 e3 F3 => ?_
  obtain ⟨a, xs, rfl, ha, hd⟩ := (r1.mono (e2.tup.trans e3.tup)).t
  refine ⟨a, xs, rfl, SqT.of ha, fun hw => ?_, fun _ p hp => ?_⟩
  · rw [hd.len] at hw
    refine q _ H3 ((e1.trans e2).trans e3) F3 ?_
    rw [cut_whole hw]
    exact .tup ha hd
  · have e4 : Ex T po H3 (upd H3 p (.tup (cutV xs lo hi))) := Ex.new hp
    exact q _ _ (((e1.trans e2).trans e3).trans e4) (F3.mono e4) (.tup upd_same ((cut_dt hd lo hi).mono e4.tup))
theorem el_slK {tl th : TO} {lo hi : Option Int} {Pl : List PyData → Prop} (h : EvK T po Hb gs env te Pl) (h1 : EvO T po Hb gs env tl lo) (h2 : EvO T po Hb gs env th hi) : EvL T po Hb gs env (tSl (rSlL K) te tl th) (fun l => ∃ ds, Pl ds ∧ l = cutD ds lo hi) := fun σ H F Q q => by
  refine h σ H F _ fun a vs ds H1 e1 F1 np ha r1 p1 => h1 σ H1 F1 _ fun H2 e2 F2 => h2 σ H2 F2 _ fun H3 e3 F3 => ?_
  refine ⟨a, vs, rfl, SqL.of (e3.lst np (e2.lst np ha)), fun p hp => ?_⟩
  have e4 : Ex T po H3 (upd H3 p (.lst (cutV vs lo hi))) := Ex.new hp
  exact q _ _ _ _ (((e1.trans e2).trans e3).trans e4) (F3.mono e4) (e1.dom p (e2.dom p (e3.dom p hp))) upd_same ((cut_dt (r1.mono (e2.tup.trans e3.tup)) lo hi).mono e4.tup) ⟨ds, p1, rfl⟩
theorem ev_catX {Pa Pb : List PyData → Prop} (ha : Ev T po Hb gs env ta fun d => ∃ l, d = .tuple l ∧ Pa l) (hb : Ev T po Hb gs env tb fun d => ∃ l, d = .tuple l ∧ Pb l) (hl : ∀ xs ys, Pa xs → Pb ys → xs.length + ys.length ≤ 16777216) : Ev T po Hb gs env (tOp (rCatA K) ta tb) (fun d => ∃ xs ys, d = .tuple (xs ++ ys) ∧ Pa xs ∧ Pb ys) := fun σ H F Q q => by
  refine ha σ H F _ fun v d H1 e1 F1 r1 ⟨xs, ex, p1⟩ => hb σ H1 F1 _ fun w e H2 e2 F2 r2 ⟨ys, ey, p2⟩ => ?_
  subst ex
  subst ey
  obtain ⟨a, vs, rfl, ha, hd⟩ := (r1.mono e2.tup).t
  obtain ⟨b, ws, rfl, hb, he⟩ := r2.t
  refine ⟨a, b, vs, ws, rfl, rfl, SqT.of ha, SqT.of hb, small24 (by rw [hd.len, he.len]; exact hl _ _ p1 p2), fun e0 => ?_, fun _ e0 => ?_, fun _ _ p hp => ?_⟩
  · subst e0
    cases hd
    exact q _ _ H2 (e1.trans e2) F2 (.tup hb he) ⟨[], ys, rfl, p1, p2⟩
  · subst e0
    cases he
    exact q _ _ H2 (e1.trans e2) F2 (.tup ha hd) ⟨xs, [], by rw [List.append_nil], p1, p2⟩
  · have e3 : Ex T po H2 (upd H2 p (.tup (vs ++ ws))) := Ex.new hp
    exact q _ _ _ ((e1.trans e2).trans e3) (F2.mono e3) (.tup upd_same (DtA.app (hd.mono e3.tup) (he.mono e3.tup))) ⟨xs, ys, rfl, p1, p2⟩
theorem ev_cat {xs ys : List PyData} (ha : EvD T po Hb gs env ta (.tuple xs)) (hb : EvD T po Hb gs env tb (.tuple ys)) (hl : xs.length + ys.length ≤ 16777216) : EvD T po Hb gs env (tOp (rCatA K) ta tb) (.tuple (xs ++ ys)) :=
  Ev.one ((ev_catX (Pa := (· = xs)) (Pb := (· = ys)) (ha.ev.imp fun d e => ⟨xs, e, rfl⟩) (hb.ev.imp fun d e => ⟨ys, e, rfl⟩) fun _ _ e1 e2 => by rw [e1, e2]; exact hl).imp fun d ⟨l, m, e0, e1, e2⟩ => by rw [e0, e1, e2])
end
end K22
/-! KC: statements, loops, comprehensions, promises, told by data over a frame. -/
namespace K22
open PySem PySem.Spec L2 LamX

theorem sq {t u : TS} {D : Ends} {σ : L2.St} {H : Hp} (h : t { D with nx := u D } σ H) : tSeq t u D σ H := h

section
variable {T : List (Addr × Str)} {po : Option PenD} {Hb : Hp} {gs : List (V × AV)} {env : List AV} {K : PySem.W.Frag} {ta tb te tl : TE} {tr : TA} {t u : TS} {tt : TT} {d : PyData} {Pd : PyData → Prop} {Pl : List PyData → Prop} {σ : L2.St} {H : Hp} {D : Ends} {i j k : Nat}

/-! ### names set -/
theorem st_set (F : Fr T po Hb gs env H σ) (h : Ev T po Hb gs env te Pd) (q : ∀ v d H', Ex T po H H' → Fr T po Hb gs (env.set i (.d d)) H' (σ.set i (some v)) → Pd d → D.nx (σ.set i (some v)) H') : tAsg te (gName i) D σ H :=
  h σ H F _ fun v d H' e F' r p => q v d H' e (F'.setD r) p
theorem st_setL (F : Fr T po Hb gs env H σ) (h : EvL T po Hb gs env te Pl) (q : ∀ a ds H', Ex T po H H' → Fr T po Hb gs (env.set i (.l ds)) H' (σ.set i (some (.ref a))) → H a = none → Pl ds → D.nx (σ.set i (some (.ref a))) H') : tAsg te (gName i) D σ H :=
  h σ H F _ fun a vs ds H' e F' n ha r p => q a ds H' e (F'.setL (F.ext.dom a n) ha r ⟨fun i xs h1 h2 => (F.off n).1 i xs h1 h2, (F.off n).2⟩) n p
/-- a, b = a tuple of two; of three; of five -/
theorem st_set2 {x y : PyData} (F : Fr T po Hb gs env H σ) (h : EvD T po Hb gs env te (.tuple [x, y])) (q : ∀ v w H', Ex T po H H' → Fr T po Hb gs ((env.set i (.d x)).set j (.d y)) H' ((σ.set i (some v)).set j (some w)) → D.nx ((σ.set i (some v)).set j (some w)) H') :
    tAsg te (gTup K 2 (gCons (gName i) (gCons (gName j) gNil))) D σ H :=
  h σ H F _ fun v H' e F' r => by
    obtain ⟨a, xs, rfl, h1, h2⟩ := r.t
    cases h2 with
    | cons r1 h2 =>
      cases h2 with
      | cons r2 h2 =>
        cases h2
        exact ⟨a, _, rfl, SqT.of h1, rfl, _, _, rfl, _, _, rfl, rfl, q _ _ H' e ((F'.setD r1).setD r2)⟩
theorem st_set3 {x y z : PyData} (F : Fr T po Hb gs env H σ) (h : EvD T po Hb gs env te (.tuple [x, y, z])) (q : ∀ v w u H', Ex T po H H' → Fr T po Hb gs (((env.set i (.d x)).set j (.d y)).set k (.d z)) H' (((σ.set i (some v)).set j (some w)).set k (some u)) → D.nx (((σ.set i (some v)).set j (some w)).set k (some u)) H') :
    tAsg te (gTup K 3 (gCons (gName i) (gCons (gName j) (gCons (gName k) gNil)))) D σ H :=
  h σ H F _ fun v H' e F' r => by
    obtain ⟨a, xs, rfl, h1, h2⟩ := r.t
    cases h2 with
    | cons r1 h2 =>
      cases h2 with
      | cons r2 h2 =>
        cases h2 with
        | cons r3 h2 =>
          cases h2
          exact ⟨a, _, rfl, SqT.of h1, rfl, _, _, rfl, _, _, rfl, _, _, rfl, rfl, q _ _ _ H' e (((F'.setD r1).setD r2).setD r3)⟩
/-- a, b = x, y side by side -/
theorem st_par {Pe : PyData → PyData → Prop} (F : Fr T po Hb gs env H σ) (h1 : Ev T po Hb gs env ta Pd) (h2 : Ev T po Hb gs env tb fun y => ∀ x, Pd x → Pe x y) (q : ∀ v w x y H', Ex T po H H' → Fr T po Hb gs ((env.set i (.d x)).set j (.d y)) H' ((σ.set i (some v)).set j (some w)) → Pd x → Pe x y → D.nx ((σ.set i (some v)).set j (some w)) H') :
    tPar i j (tCons ta (tCons tb tNil)) D σ H :=
  h1 σ H F _ fun v x H1 e1 F1 r1 p1 => h2 σ H1 F1 _ fun w y H2 e2 F2 r2 p2 => ⟨v, w, rfl, q v w x y H2 (e1.trans e2) ((F2.setD (r1.mono e2.tup)).setD r2) p1 (p2 x p1)⟩
theorem st_parDL (F : Fr T po Hb gs env H σ) (h1 : Ev T po Hb gs env ta Pd) (h2 : EvL T po Hb gs env tb Pl) (q : ∀ v a x ds H', Ex T po H H' → Fr T po Hb gs ((env.set i (.d x)).set j (.l ds)) H' ((σ.set i (some v)).set j (some (.ref a))) → Pd x → Pl ds → D.nx ((σ.set i (some v)).set j (some (.ref a))) H') :
    tPar i j (tCons ta (tCons tb tNil)) D σ H :=
  h1 σ H F _ fun v x H1 e1 F1 r1 p1 => h2 σ H1 F1 _ fun a vs ds H2 e2 F2 n ha r2 p2 => ⟨v, _, rfl, by
    have off : Off gs (env.set i (.d x)) (σ.set i (some v)) a := (F1.setD r1).off n
    exact q v a x ds H2 (e1.trans e2) ((F2.setD (r1.mono e2.tup)).setL (F1.ext.dom a n) ha r2 off) p1 p2⟩
theorem st_parLL {Pm : List PyData → Prop} (hij : i ≠ j) (F : Fr T po Hb gs env H σ) (h1 : EvL T po Hb gs env ta Pl) (h2 : EvL T po Hb gs env tb Pm) (q : ∀ a b ds es H', Ex T po H H' → Fr T po Hb gs ((env.set i (.l ds)).set j (.l es)) H' ((σ.set i (some (.ref a))).set j (some (.ref b))) → Pl ds → Pm es → D.nx ((σ.set i (some (.ref a))).set j (some (.ref b))) H') :
    tPar i j (tCons ta (tCons tb tNil)) D σ H :=
  h1 σ H F _ fun a vs ds H1 e1 F1 n1 ha r1 p1 => h2 σ H1 F1 _ fun b ws es H2 e2 F2 n2 hb r2 p2 => ⟨_, _, rfl, by
    have F3 : Fr T po Hb gs (env.set i (.l ds)) H1 (σ.set i (some (.ref a))) := F1.setL (F.ext.dom a n1) ha r1 (F.off n1)
    have off : Off gs (env.set i (.l ds)) (σ.set i (some (.ref a))) b := F3.off n2
    exact q a b ds es H2 (e1.trans e2) ((F3.mono e2).setL (F1.ext.dom b n2) hb r2 off) p1 p2⟩

/-! ### append, extend -/
theorem st_app {xs : List PyData} (F : Fr T po Hb gs env H σ) (hi : env[i]? = some (.l xs)) (hl : xs.length < 16777216) (h : Ev T po Hb gs env te Pd) (q : ∀ d H', Fr T po Hb gs (env.set i (.l (xs ++ [d]))) H' σ → Tk H H' → Pd d → D.nx σ H') :
    tDrop (tBM K "list" rAppend (tVar i) (tCons te tNil)) D σ H := by
  obtain ⟨a, vs, h1, h0, h2, h3⟩ := F.lst hi
  refine ⟨.ref a, h1, .inl ⟨rfl, _, SqL.of h2⟩, h σ H F _ fun v d H1 e1 F1 r1 p1 => ?_⟩
  have hv : H1 a = some (.lst vs) := e1.lst (F.notPen h0) h2
  refine ⟨a, vs, v, rfl, rfl, hv, small24' (by rw [h3.len]; exact hl), ?_⟩
  obtain ⟨F2, tk⟩ := F1.put hi h1 hv (DtA.app (h3.mono e1.tup) (.cons r1 .nil))
  exact q d _ F2 (e1.tup.trans tk) p1
theorem st_ext {xs : List PyData} (F : Fr T po Hb gs env H σ) (hi : env[i]? = some (.l xs)) (hl : ∀ ys, Pl ys → xs.length + ys.length ≤ 16777216) (h : EvK T po Hb gs env te Pl) (q : ∀ ys H', Fr T po Hb gs (env.set i (.l (xs ++ ys))) H' σ → Tk H H' → Pl ys → D.nx σ H') :
    tDrop (tBM K "list" rExtend (tVar i) (tCons te tNil)) D σ H := by
  obtain ⟨a, vs, h1, h0, h2, h3⟩ := F.lst hi
  refine ⟨.ref a, h1, .inl ⟨rfl, _, SqL.of h2⟩, h σ H F _ fun b ws ys H1 e1 F1 np hb r1 p1 => ?_⟩
  have hv : H1 a = some (.lst vs) := e1.lst (F.notPen h0) h2
  refine ⟨a, b, vs, ws, rfl, rfl, hv, hb, small24 (by rw [h3.len, r1.len]; exact hl ys p1), ?_⟩
  obtain ⟨F2, tk⟩ := F1.put hi h1 hv (DtA.app (h3.mono e1.tup) r1)
  exact q ys _ F2 (e1.tup.trans tk) p1

/-! ### return, if -/
theorem st_ret (F : Fr T po Hb gs env H σ) (h : Ev T po Hb gs env te Pd) (q : ∀ v d H', Ex T po Hb H' → Dt H' v d → Pd d → D.rt v H') : tRet te D σ H := h σ H F _ fun v d H' e F' r p => q v d H' F'.ext r p
theorem st_retL (F : Fr T po Hb gs env H σ) (h : EvL T po Hb gs env te Pl) (q : ∀ a vs ds H', Ex T po Hb H' → Hb a = none → H' a = some (.lst vs) → DtA H' vs ds → Pl ds → D.rt (.ref a) H') : tRet te D σ H :=
  h σ H F _ fun a vs ds H' e F' n ha r p => q a vs ds H' F'.ext (F.ext.dom a n) ha r p
/-- return of a list held in a slot -/
theorem st_retV {xs : List PyData} (F : Fr T po Hb gs env H σ) (hi : env[i]? = some (.l xs)) (q : ∀ a vs, Ex T po Hb H → Hb a = none → H a = some (.lst vs) → DtA H vs xs → D.rt (.ref a) H) : tRet (tVar i) D σ H := by
  obtain ⟨a, vs, h1, h0, h2, h3⟩ := F.lst hi
  exact ⟨.ref a, h1, q a vs F.ext h0 h2 h3⟩
theorem st_if {Pb : Bool → Prop} (F : Fr T po Hb gs env H σ) (h : EvT T po Hb gs env tt Pb) (q1 : ∀ H', Ex T po H H' → Fr T po Hb gs env H' σ → Pb true → t D σ H') (q2 : ∀ H', Ex T po H H' → Fr T po Hb gs env H' σ → Pb false → u D σ H') : tIfS tt t u D σ H :=
  h σ H F _ fun b H' e F' p => by
    cases b with
    | true =>
      rw [if_pos rfl]
      exact q1 H' e F' p
    | false =>
      rw [if_neg Bool.false_ne_true]
      exact q2 H' e F' p
theorem st_yes (F : Fr T po Hb gs env H σ) (h : EvT T po Hb gs env tt (· = true)) (q : ∀ H', Ex T po H H' → Fr T po Hb gs env H' σ → t D σ H') : tIfS tt t u D σ H := st_if F h (fun H' e F' _ => q H' e F') fun _ _ _ z => nomatch z
theorem st_no (F : Fr T po Hb gs env H σ) (h : EvT T po Hb gs env tt (· = false)) (q : ∀ H', Ex T po H H' → Fr T po Hb gs env H' σ → u D σ H') : tIfS tt t u D σ H := st_if F h (fun _ _ _ z => nomatch z) fun H' e F' _ => q H' e F'

/-! ### loops -/
/-- what holds at turn n: a frame of data with I -/
def Lv (T : List (Addr × Str)) (po : Option PenD) (Hb : Hp) (gs : List (V × AV)) (I : Nat → List AV → L2.St → Hp → Prop) (n : Nat) (σ : L2.St) (H : Hp) : Prop := ∃ env, Fr T po Hb gs env H σ ∧ I n env σ H
theorem st_forT {g : TG} {ds : List PyData} (I : Nat → List AV → L2.St → Hp → Prop) (F : Fr T po Hb gs env H σ) (h : EvD T po Hb gs env tl (.tuple ds)) (h0 : ∀ H', Ex T po H H' → I 0 env σ H')
    (hs : ∀ v0 (n : Nat) (d : PyData) (v : V) (env' : List AV) (σ' : L2.St) (H' : Hp), ds[n]? = some d → Fr T po Hb ((v0, .d (.tuple ds)) :: gs) env' H' σ' → I n env' σ' H' → Dt H' v d →
      g v σ' H' fun σ2 H2 => t { D with nx := Lv T po Hb ((v0, .d (.tuple ds)) :: gs) I (n + 1), ct := Lv T po Hb ((v0, .d (.tuple ds)) :: gs) I (n + 1), bk := D.nx } σ2 H2)
    (hd : ∀ env' σ' H', Fr T po Hb gs env' H' σ' → I ds.length env' σ' H' → D.nx σ' H') : tFor (iTup K tl) g t D σ H := by
  refine h σ H F _ fun v0 H1 e1 F1 r1 => ?_
  obtain ⟨a, xs, rfl, h1, h2⟩ := id r1.t
  refine ⟨a, rfl, ⟨xs, SqT.of h1⟩, fun n m σ' H' => m = ds.length - n ∧ n ≤ ds.length ∧ Lv T po Hb ((.ref a, .d (.tuple ds)) :: gs) I n σ' H', ⟨ds.length, rfl, Nat.zero_le _, env, F1.asideD r1, h0 H1 e1⟩, ?_⟩
  rintro n m σ' H' ⟨rfl, hn, env', F', i'⟩
  obtain ⟨v, q1, q2⟩ := (F'.gh _ List.mem_cons_self).1
  cases Option.some.inj (Option.some.inj q1)
  obtain ⟨b, ys, q3, q4, q5⟩ := q2.t
  cases q3
  by_cases hlt : n < ds.length
  · obtain ⟨v, hv, hd'⟩ := q5.get (List.getElem?_eq_getElem hlt)
    refine .inr ⟨⟨ys, v, SqT.of q4, hv⟩, Lv T po Hb ((.ref a, .d (.tuple ds)) :: gs) I (n + 1), fun σ3 H3 l3 => ⟨ds.length - (n + 1), by omega, rfl, hlt, l3⟩, fun x H3 y => ?_⟩
    obtain ⟨rfl, y⟩ := y
    have ex : x = v := Option.some.inj ((y ys (SqT.of q4)).symm.trans hv)
    subst ex
    exact hs _ n ds[n] x env' σ' H3 (List.getElem?_eq_getElem hlt) F' i' hd'
  · have e : n = ds.length := by omega
    subst e
    exact .inl ⟨⟨ys, SqT.of q4, by rw [q5.len]; exact Nat.le_refl _⟩, hd env' σ' H' F'.drop i'⟩
/-- over a new list -/
theorem st_forL {g : TG} (I : List PyData → Nat → List AV → L2.St → Hp → Prop) (F : Fr T po Hb gs env H σ) (h : EvL T po Hb gs env tl Pl) (h0 : ∀ ds H', Ex T po H H' → Pl ds → I ds 0 env σ H')
    (hs : ∀ v0 ds (n : Nat) (d : PyData) (v : V) (env' : List AV) (σ' : L2.St) (H' : Hp), Pl ds → ds[n]? = some d → Fr T po Hb ((v0, .l ds) :: gs) env' H' σ' → I ds n env' σ' H' → Dt H' v d →
      g v σ' H' fun σ2 H2 => t { D with nx := Lv T po Hb ((v0, .l ds) :: gs) (I ds) (n + 1), ct := Lv T po Hb ((v0, .l ds) :: gs) (I ds) (n + 1), bk := D.nx } σ2 H2)
    (hd : ∀ ds env' σ' H', Pl ds → Fr T po Hb gs env' H' σ' → I ds ds.length env' σ' H' → D.nx σ' H') : tFor (iList K tl) g t D σ H := by
  refine h σ H F _ fun a vs ds H1 e1 F1 n1 h1 r1 p1 => ?_
  have off := F.off n1
  have F2 : Fr T po Hb ((.ref a, .l ds) :: gs) env H1 σ := F1.aside ⟨a, vs, rfl, F.ext.dom a n1, h1, r1⟩ fun i b xs ys e _ hi => by
    cases e
    exact off.1 i xs hi
  refine ⟨a, rfl, ⟨vs, SqL.of h1⟩, fun n m σ' H' => m = ds.length - n ∧ n ≤ ds.length ∧ Lv T po Hb ((.ref a, .l ds) :: gs) (I ds) n σ' H', ⟨ds.length, rfl, Nat.zero_le _, env, F2, h0 ds H1 e1 p1⟩, ?_⟩
  rintro n m σ' H' ⟨rfl, hn, env', F', i'⟩
  obtain ⟨b, ys, q1, _, q4, q5⟩ := (F'.gh _ List.mem_cons_self).1
  cases Option.some.inj (Option.some.inj q1)
  by_cases hlt : n < ds.length
  · obtain ⟨v, hv, hd'⟩ := q5.get (List.getElem?_eq_getElem hlt)
    refine .inr ⟨⟨ys, v, SqL.of q4, hv⟩, Lv T po Hb ((.ref a, .l ds) :: gs) (I ds) (n + 1), fun σ3 H3 l3 => ⟨ds.length - (n + 1), by omega, rfl, hlt, l3⟩, fun x H3 y => ?_⟩
    obtain ⟨rfl, y⟩ := y
    have ex : x = v := Option.some.inj ((y ys (SqL.of q4)).symm.trans hv)
    subst ex
    exact hs _ ds n ds[n] x env' σ' H3 p1 (List.getElem?_eq_getElem hlt) F' i' hd'
  · have e : n = ds.length := by omega
    subst e
    exact .inl ⟨⟨ys, SqL.of q4, by rw [q5.len]; exact Nat.le_refl _⟩, hd ds env' σ' H' p1 F'.drop i'⟩
/-- over the list of a slot, which stays -/
theorem st_forS {g : TG} {ds : List PyData} {s0 : Nat} (I : Nat → List AV → L2.St → Hp → Prop) (F : Fr T po Hb gs env H σ) (h : env[s0]? = some (.l ds)) (h0 : I 0 env σ H)
    (hI : ∀ n env' a σ' H', σ[s0]? = some (some (.ref a)) → Fr T po Hb gs env' H' σ' → I n env' σ' H' → env'[s0]? = some (.l ds) ∧ σ'[s0]? = some (some (.ref a)))
    (hs : ∀ (n : Nat) (d : PyData) (v : V) (env' : List AV) (σ' : L2.St) (H' : Hp), ds[n]? = some d → Fr T po Hb gs env' H' σ' → I n env' σ' H' → Dt H' v d →
      g v σ' H' fun σ2 H2 => t { D with nx := Lv T po Hb gs I (n + 1), ct := Lv T po Hb gs I (n + 1), bk := D.nx } σ2 H2)
    (hd : ∀ env' σ' H', Fr T po Hb gs env' H' σ' → I ds.length env' σ' H' → D.nx σ' H') : tFor (iList K (tVar s0)) g t D σ H := by
  obtain ⟨a, vs, e0, n1, h1, r1⟩ := F.lst h
  refine ⟨.ref a, e0, a, rfl, ⟨vs, SqL.of h1⟩, fun n m σ' H' => m = ds.length - n ∧ n ≤ ds.length ∧ Lv T po Hb gs I n σ' H', ⟨ds.length, rfl, Nat.zero_le _, env, F, h0⟩, ?_⟩
  rintro n m σ' H' ⟨rfl, hn, env', F', i'⟩
  obtain ⟨w1, w2⟩ := hI n env' a σ' H' e0 F' i'
  obtain ⟨b, ys, q1, _, q4, q5⟩ := F'.lst w1
  rw [w2] at q1
  cases q1
  by_cases hlt : n < ds.length
  · obtain ⟨v, hv, hd'⟩ := q5.get (List.getElem?_eq_getElem hlt)
    refine .inr ⟨⟨ys, v, SqL.of q4, hv⟩, Lv T po Hb gs I (n + 1), fun σ3 H3 l3 => ⟨ds.length - (n + 1), by omega, rfl, hlt, l3⟩, fun x H3 y => ?_⟩
    obtain ⟨rfl, y⟩ := y
    have ex : x = v := Option.some.inj ((y ys (SqL.of q4)).symm.trans hv)
    subst ex
    exact hs n ds[n] x env' σ' H3 (List.getElem?_eq_getElem hlt) F' i' hd'
  · have e : n = ds.length := by omega
    subst e
    exact .inl ⟨⟨ys, SqL.of q4, by rw [q5.len]; exact Nat.le_refl _⟩, hd env' σ' H' F' i'⟩
/-- over range(n) -/
theorem st_forR {g : TG} (I : Nat → Nat → List AV → L2.St → Hp → Prop) (F : Fr T po Hb gs env H σ) (h : Ev T po Hb gs env te Pd) (hn : ∀ d, Pd d → ∃ n : Nat, d = .int n ∧ n ≤ 16777216) (h0 : ∀ n H', Ex T po H H' → Pd (.int (n : Nat)) → I n 0 env σ H')
    (hs : ∀ (n k : Nat) (env' : List AV) (σ' : L2.St) (H' : Hp), Pd (.int (n : Nat)) → k < n → Fr T po Hb gs env' H' σ' → I n k env' σ' H' →
      g (.int (k : Nat)) σ' H' fun σ2 H2 => t { D with nx := Lv T po Hb gs (I n) (k + 1), ct := Lv T po Hb gs (I n) (k + 1), bk := D.nx } σ2 H2)
    (hd : ∀ (n : Nat) env' σ' H', Pd (.int (n : Nat)) → Fr T po Hb gs env' H' σ' → I n n env' σ' H' → D.nx σ' H') : tFor (iRng1 (tCons te tNil)) g t D σ H := by
  refine h σ H F _ fun v d H1 e1 F1 r1 p1 => ?_
  obtain ⟨n, rfl, hle⟩ := hn d p1
  obtain rfl := r1.i
  refine ⟨(n : Int), rfl, by omega, by omega, for_range (lo := 0) (n := ((n : Nat) : Int).toNat) (Lv T po Hb gs (I n)) ⟨env, F1, h0 n H1 e1 p1⟩ (fun k σ' H' hk ⟨env', F', i'⟩ => ?_) (fun σ' H' ⟨env', F', i'⟩ => ?_)⟩
  · rw [Int.zero_add]
    exact hs n k env' σ' H' p1 (by omega) F' i'
  · rw [Int.toNat_natCast] at i'
    exact hd n env' σ' H' p1 F' i'
/-- while -/
theorem st_while (I : Nat → List AV → Prop) (Pb : Nat → List AV → Bool → Prop) (F : Fr T po Hb gs env H σ) {m0 : Nat} (h0 : I m0 env) (hc : ∀ m env', I m env' → EvT T po Hb gs env' tt (Pb m env'))
    (hb : ∀ m env' σ' H', Fr T po Hb gs env' H' σ' → I m env' → Pb m env' true → t { D with nx := fun σ2 H2 => ∃ m2 env2, m2 < m ∧ Fr T po Hb gs env2 H2 σ2 ∧ I m2 env2, ct := fun σ2 H2 => ∃ m2 env2, m2 < m ∧ Fr T po Hb gs env2 H2 σ2 ∧ I m2 env2, bk := D.nx } σ' H')
    (hd : ∀ m env' σ' H', Fr T po Hb gs env' H' σ' → I m env' → Pb m env' false → D.nx σ' H') : tWhile tt t D σ H := by
  refine ⟨fun m σ' H' => ∃ env', Fr T po Hb gs env' H' σ' ∧ I m env', ⟨m0, env, F, h0⟩, ?_⟩
  rintro m σ' H' ⟨env', F', i'⟩
  refine hc m env' i' σ' H' F' _ fun b H1 e1 F1 p1 => ?_
  cases b with
  | true =>
    rw [if_pos rfl]
    exact ⟨_, fun σ2 H2 ⟨m2, env2, lt, F2, i2⟩ => ⟨m2, lt, env2, F2, i2⟩, hb m env' σ' H1 F1 i' p1⟩
  | false =>
    rw [if_neg Bool.false_ne_true]
    exact hd m env' σ' H1 F1 i' p1
/-- the target is one name -/
theorem gN {v : V} {Q : L2.St → Hp → Prop} (F : Fr T po Hb gs env H σ) (r : Dt H v d) (q : Fr T po Hb gs (env.set i (.d d)) H (σ.set i (some v)) → Q (σ.set i (some v)) H) : gName i v σ H Q := q (F.setD r)
/-- .. two names -/
theorem gN2 {v : V} {x y : PyData} {Q : L2.St → Hp → Prop} (F : Fr T po Hb gs env H σ) (r : Dt H v (.tuple [x, y])) (q : ∀ v w, Fr T po Hb gs ((env.set i (.d x)).set j (.d y)) H ((σ.set i (some v)).set j (some w)) → Q ((σ.set i (some v)).set j (some w)) H) : gTup K 2 (gCons (gName i) (gCons (gName j) gNil)) v σ H Q := by
  obtain ⟨a, xs, rfl, h1, h2⟩ := r.t
  cases h2 with
  | cons r1 h2 =>
    cases h2 with
    | cons r2 h2 =>
      cases h2
      exact ⟨a, _, rfl, SqT.of h1, rfl, _, _, rfl, _, _, rfl, rfl, q _ _ ((F.setD r1).setD r2)⟩

/-! ### comprehensions -/
/-- out is made of ds: an item is left out, or gives one -/
inductive CompR (Pb : PyData → Bool → Prop) (Pe : PyData → PyData → Prop) : List PyData → List PyData → Prop
  | nil : CompR Pb Pe [] []
  | skip {ds out : List PyData} {d : PyData} : CompR Pb Pe ds out → Pb d false → CompR Pb Pe (ds ++ [d]) out
  | keep {ds out : List PyData} {d e : PyData} : CompR Pb Pe ds out → Pb d true → Pe d e → CompR Pb Pe (ds ++ [d]) (out ++ [e])
theorem CompR.le {Pb : PyData → Bool → Prop} {Pe : PyData → PyData → Prop} {ds out : List PyData} (h : CompR Pb Pe ds out) : out.length ≤ ds.length := by
  induction h with
  | nil => exact Nat.le_refl _
  | skip _ _ ih => rw [List.length_append]; exact Nat.le_trans ih (Nat.le_add_right _ _)
  | keep _ _ _ ih => rw [List.length_append, List.length_append]; exact Nat.add_le_add_right ih 1
theorem Ex.mut {L : Addr} {acc : List V} {H H1 : Hp} {o : HO} (e : Ex T po H H1) (hp : ∀ P, po = some P → Pen P H) (h0 : H L = none) (h1 : H1 L = some (.lst acc)) : Ex T po H (upd H1 L o) := by
  refine ⟨fun b o h1 h2 h => ?_, .of fun b u hu h => ?_, fun P hP h => ?_, fun b h => ?_, fun h => ?_⟩
  · rw [upd_ne (ne_of_none h h0)]
    exact e.keep b o h1 h2 h
  · rw [upd_ne (ne_of_none h h0)]
    exact e.tup.at hu h
  · have q := e.pen P hP h
    have hpa : P.p ≠ L := fun z => by
      have w := h.some
      rw [z, h0] at w
      cases w
    have hca : P.c ≠ L := fun z => by
      have w := h.someC
      rw [z, h0] at w
      cases w
    obtain ⟨⟨i', j', q1⟩, q2, q3⟩ := q
    exact ⟨⟨i', j', by rw [upd_ne hpa]; exact q1⟩, by rw [upd_ne hca]; exact q2, q3⟩
  · by_cases eb : b = L
    · subst eb
      rw [upd_same] at h
      cases h
    · rw [upd_ne eb] at h
      exact e.dom b h
  · exact tabs_lst (e.tab h) h1
/-- one turn of the block -/
theorem comp_turn {i : Nat} {Pb : PyData → Bool → Prop} {Pe : PyData → PyData → Prop} {done out : List PyData} {B H1 : Hp} {L : Addr} {acc : List V} {v : V} {Nx : Hp → Prop} (F : Fr T po Hb gs env H1 σ) (eB : Ex T po B H1) (hB : B L = none) (pB : ∀ P, po = some P → Pen P B) (hL : H1 L = some (.lst acc)) (hLb : Hb L = none) (hLs : Off gs env σ L) (hacc : DtA H1 acc out) (hl : out.length < 16777216) (r : Dt H1 v d)
    (ht : EvT T po Hb gs (env.set i (.d d)) tt (Pb d)) (he : Pb d true → Ev T po Hb gs (env.set i (.d d)) te (Pe d))
    (n1 : ∀ H2 acc2 out2, Fr T po Hb gs env H2 σ → Ex T po B H2 → H2 L = some (.lst acc2) → DtA H2 acc2 out2 → CompR Pb Pe (done ++ [d]) out2 → Nx H2) (hR : CompR Pb Pe done out) :
    gName i v (wipe σ [i]) H1 fun σ2 H2 => wipe σ2 [i] = wipe σ [i] ∧ tt σ2 H2 fun b H3 => if b = true then te σ2 H3 fun y H4 => ∃ acc, H4 L = some (.lst acc) ∧ acc.length < sizeLine ∧ Nx (upd H4 L (.lst (acc ++ [y]))) else Nx H3 := by
  have Fw : Fr T po Hb gs (env.set i (.d d)) H1 (σ.set i (some v)) := F.setD r
  have hσ : (wipe σ [i]).set i (some v) = σ.set i (some v) := List.set_set ..
  unfold gName
  rw [hσ]
  refine ⟨List.set_set .., ?_⟩
  refine ht _ H1 Fw _ fun b H3 e3 F3 p3 => ?_
  have np : NP po L := F.notPen hLb
  cases b with
  | true =>
    rw [if_pos rfl]
    refine he p3 _ H3 F3 _ fun y d' H4 e4 F4 r4 p4 => ?_
    have hL4 : H4 L = some (.lst acc) := e4.lst np (e3.lst np hL)
    refine ⟨acc, hL4, small24' (by rw [hacc.len]; exact hl), ?_⟩
    have F5 : Fr T po Hb gs env H4 σ := F.mono (e3.trans e4)
    obtain ⟨F6, tk⟩ := F5.other (o := .lst (acc ++ [y])) hLb hL4 (fun z => z) (fun q ps => ⟨fun z => codeO_lst acc z.symm, fun z => nomatch z⟩) hLs
    exact n1 _ _ _ F6 ((eB.trans (e3.trans e4)).mut pB hB hL4) upd_same (DtA.app ((hacc.mono (e3.trans e4).tup).mono tk) (.cons (r4.mono tk) .nil)) (.keep hR p3 p4)
  | false =>
    rw [if_neg Bool.false_ne_true]
    exact n1 _ _ _ (F.mono e3) (eB.trans e3) (e3.lst np hL) (hacc.mono e3.tup) (.skip hR p3)
theorem take_snoc {α : Type} {l : List α} {n : Nat} {x : α} (h : l[n]? = some x) : l.take (n + 1) = l.take n ++ [x] := by
  rw [List.take_add_one, h]
  rfl
/-- [e for x in a tuple if ..] -/
theorem el_compT {i : Nat} {ds : List PyData} (Pb : PyData → Bool → Prop) (Pe : PyData → PyData → Prop) (h : EvD T po Hb gs env tl (.tuple ds)) (hl : ds.length < 16777216)
    (ht : ∀ d ∈ ds, EvT T po Hb gs (env.set i (.d d)) tt (Pb d)) (he : ∀ d ∈ ds, Pb d true → Ev T po Hb gs (env.set i (.d d)) te (Pe d)) : EvL T po Hb gs env (tLc (iTup K tl) (gName i) tt te [i]) (CompR Pb Pe ds) := fun σ H F Q q => by
  refine h σ H F _ fun v0 H1 e1 F1 r1 => ?_
  obtain ⟨a, xs, rfl, h1, h2⟩ := r1.t
  refine ⟨a, rfl, ⟨xs, SqT.of h1⟩, fun L hL => ?_⟩
  have off := F1.off hL
  have hb0 := F1.ext.dom L hL
  have e2 : Ex T po H1 (upd H1 L (.lst [])) := Ex.new hL
  refine lc_tup (K := K) (a := a) (xs := xs) (fun n H2 => ∃ acc out, Fr T po Hb gs env H2 σ ∧ Ex T po H1 H2 ∧ H2 L = some (.lst acc) ∧ DtA H2 acc out ∧ CompR Pb Pe (ds.take n) out) ⟨[], [], F1.mono e2, e2, upd_same, .nil, .nil⟩ (fun n H2 _ ⟨acc, out, _, e, _⟩ => SqT.of (e.tup a xs h1)) (fun n x H2 hx ⟨acc, out, F2, e, hL2, r2, c2⟩ => ?_) (fun H2 ⟨acc, out, F2, e, hL2, r2, c2⟩ => ?_)
  · obtain ⟨d, hd, rd⟩ := h2.get' hx
    have hm : d ∈ ds := List.mem_of_getElem? hd
    have hle := c2.le
    rw [List.length_take] at hle
    refine comp_turn F2 e hL F1.penNow hL2 hb0 off r2 (by omega) (rd.mono e.tup) (ht d hm) (he d hm) (fun H3 acc3 out3 F3 e3 hL3 r3 c3 => ?_) c2
    exact ⟨acc3, out3, F3, e3, hL3, r3, by rw [take_snoc hd]; exact c3⟩
  · rw [h2.len, List.take_length] at c2
    exact q L acc out H2 (e1.trans e) F2 (e1.dom L hL) hL2 r2 c2
/-- .. a list that is read -/
theorem el_compK {i : Nat} {Pl : List PyData → Prop} (Pb : PyData → Bool → Prop) (Pe : PyData → PyData → Prop) (h : EvK T po Hb gs env tl Pl) (hl : ∀ ds, Pl ds → ds.length < 16777216)
    (ht : ∀ ds, Pl ds → ∀ d ∈ ds, EvT T po Hb gs (env.set i (.d d)) tt (Pb d)) (he : ∀ ds, Pl ds → ∀ d ∈ ds, Pb d true → Ev T po Hb gs (env.set i (.d d)) te (Pe d)) : EvL T po Hb gs env (tLc (iList K tl) (gName i) tt te [i]) (fun out => ∃ ds, Pl ds ∧ CompR Pb Pe ds out) := fun σ H F Q q => by
  refine h σ H F _ fun a xs ds H1 e1 F1 np h1 h2 p1 => ?_
  refine ⟨a, rfl, ⟨xs, SqL.of h1⟩, fun L hL => ?_⟩
  have off := F1.off hL
  have hb0 := F1.ext.dom L hL
  have e2 : Ex T po H1 (upd H1 L (.lst [])) := Ex.new hL
  refine lc_list (K := K) (a := a) (xs := xs) (fun n H2 => ∃ acc out, Fr T po Hb gs env H2 σ ∧ Ex T po H1 H2 ∧ H2 L = some (.lst acc) ∧ DtA H2 acc out ∧ CompR Pb Pe (ds.take n) out) ⟨[], [], F1.mono e2, e2, upd_same, .nil, .nil⟩ (fun n H2 _ ⟨acc, out, _, e, _⟩ => SqL.of (e.lst np h1)) (fun n x H2 hx ⟨acc, out, F2, e, hL2, r2, c2⟩ => ?_) (fun H2 ⟨acc, out, F2, e, hL2, r2, c2⟩ => ?_)
  · obtain ⟨d, hd, rd⟩ := h2.get' hx
    have hm : d ∈ ds := List.mem_of_getElem? hd
    have hle := c2.le
    rw [List.length_take] at hle
    have := hl ds p1
    refine comp_turn F2 e hL F1.penNow hL2 hb0 off r2 (by omega) (rd.mono e.tup) (ht ds p1 d hm) (he ds p1 d hm) (fun H3 acc3 out3 F3 e3 hL3 r3 c3 => ?_) c2
    exact ⟨acc3, out3, F3, e3, hL3, r3, by rw [take_snoc hd]; exact c3⟩
  · rw [h2.len, List.take_length] at c2
    exact q L acc out H2 (e1.trans e) F2 (e1.dom L hL) hL2 r2 ⟨ds, p1, c2⟩
/-- the numbers below n -/
def upto (n : Nat) : List PyData := (List.range n).map fun k => .int (k : Nat)
theorem upto_get {n k : Nat} (h : k < n) : (upto n)[k]? = some (.int (k : Nat)) := by
  unfold upto
  rw [List.getElem?_map, List.getElem?_range h]
  rfl
theorem upto_len {n : Nat} : (upto n).length = n := by unfold upto; rw [List.length_map, List.length_range]
/-- .. range(n) -/
theorem el_compR {i : Nat} (Pb : PyData → Bool → Prop) (Pe : PyData → PyData → Prop) (h : Ev T po Hb gs env ta Pd) (hn : ∀ d, Pd d → ∃ n : Nat, d = .int n ∧ n < 16777216)
    (ht : ∀ n k : Nat, Pd (.int (n : Nat)) → k < n → EvT T po Hb gs (env.set i (.d (.int (k : Nat)))) tt (Pb (.int (k : Nat)))) (he : ∀ n k : Nat, Pd (.int (n : Nat)) → k < n → Pb (.int (k : Nat)) true → Ev T po Hb gs (env.set i (.d (.int (k : Nat)))) te (Pe (.int (k : Nat)))) :
    EvL T po Hb gs env (tLc (iRng1 (tCons ta tNil)) (gName i) tt te [i]) (fun out => ∃ n : Nat, Pd (.int (n : Nat)) ∧ CompR Pb Pe (upto n) out) := fun σ H F Q q => by
  refine h σ H F _ fun v0 d0 H1 e1 F1 r1 p1 => ?_
  obtain ⟨n, rfl, hle⟩ := hn d0 p1
  obtain rfl := r1.i
  refine ⟨(n : Int), rfl, by omega, by omega, fun L hL => ?_⟩
  have off := F1.off hL
  have hb0 := F1.ext.dom L hL
  have e2 : Ex T po H1 (upd H1 L (.lst [])) := Ex.new hL
  refine lc_range (lo := 0) (n := ((n : Nat) : Int).toNat) (fun k H2 => ∃ acc out, Fr T po Hb gs env H2 σ ∧ Ex T po H1 H2 ∧ H2 L = some (.lst acc) ∧ DtA H2 acc out ∧ CompR Pb Pe ((upto n).take k) out) ⟨[], [], F1.mono e2, e2, upd_same, .nil, .nil⟩ (fun k H2 hk ⟨acc, out, F2, e, hL2, r2, c2⟩ => ?_) (fun H2 ⟨acc, out, F2, e, hL2, r2, c2⟩ => ?_)
  · have hk' : k < n := by omega
    have hle := c2.le
    rw [List.length_take, upto_len] at hle
    rw [Int.zero_add]
    refine comp_turn F2 e hL F1.penNow hL2 hb0 off r2 (by omega) (.int (k : Nat)) (ht n k p1 hk') (he n k p1 hk') (fun H3 acc3 out3 F3 e3 hL3 r3 c3 => ?_) c2
    exact ⟨acc3, out3, F3, e3, hL3, r3, by rw [take_snoc (upto_get hk')]; exact c3⟩
  · rw [Int.toNat_natCast, List.take_of_length_le (by rw [upto_len]; exact Nat.le_refl _)] at c2
    exact q L acc out H2 (e1.trans e) F2 (e1.dom L hL) hL2 r2 ⟨n, p1, c2⟩
theorem et_yes : EvT T po Hb gs env tYes (· = true) := fun σ H F Q q => q true H (Ex.refl H) F rfl
theorem CompR.fm {Pb : PyData → Bool → Prop} {Pe : PyData → PyData → Prop} {ds out : List PyData} {p : PyData → Bool} {f : PyData → PyData} (h : CompR Pb Pe ds out) (hb : ∀ d b, Pb d b → b = p d) (he : ∀ d e, Pe d e → e = f d) : out = (ds.filter p).map f := by
  induction h with
  | nil => rfl
  | skip _ hf ih =>
    have z := hb _ _ hf
    rw [List.filter_append, List.filter_cons, ← z, ih]
    simp
  | keep _ ht hp ih =>
    have z := hb _ _ ht
    rw [List.filter_append, List.filter_cons, ← z, ih, he _ _ hp]
    simp
theorem CompR.map {Pe : PyData → PyData → Prop} {ds out : List PyData} {f : PyData → PyData} (h : CompR (fun _ b => b = true) Pe ds out) (he : ∀ d e, Pe d e → e = f d) : out = ds.map f := by
  rw [h.fm (p := fun _ => true) (fun _ _ e => e) he, List.filter_eq_self.mpr (fun _ _ => rfl)]
theorem Paired.snoc {α β : Type} {R : α → β → Prop} : ∀ {xs : List α} {ys : List β} {x : α} {y : β}, Paired R xs ys → R x y → Paired R (xs ++ [x]) (ys ++ [y])
  | _, _, _, _, .nil, r => .cons r .nil
  | _, _, _, _, .cons h t, r => .cons h (Paired.snoc t r)
theorem CompR.all {Pe : PyData → PyData → Prop} {ds out : List PyData} (h : CompR (fun _ b => b = true) Pe ds out) : Paired Pe ds out := by
  induction h with
  | nil => exact .nil
  | skip _ hf _ => cases hf
  | keep _ _ hp ih => exact Paired.snoc ih hp
/-- what a comprehension keeps has been among the items -/
theorem CompR.mem {Pb : PyData → Bool → Prop} {Pe : PyData → PyData → Prop} {ds out : List PyData} (h : CompR Pb Pe ds out) : ∀ e ∈ out, ∃ d ∈ ds, Pb d true ∧ Pe d e := by
  induction h with
  | nil => intro e he; cases he
  | skip _ _ ih =>
    intro e he
    obtain ⟨d, hd, q⟩ := ih e he
    exact ⟨d, List.mem_append_left _ hd, q⟩
  | @keep ds out d0 e0 _ ht hp ih =>
    intro e he
    rcases List.mem_append.mp he with he | he
    · obtain ⟨d, hd, q⟩ := ih e he
      exact ⟨d, List.mem_append_left _ hd, q⟩
    · rw [List.mem_singleton.mp he]
      exact ⟨d0, List.mem_append_right _ (List.mem_singleton.mpr rfl), ht, hp⟩

/-! ### promises -/
/-- a def that gives a datum and changes nothing -/
def SpD (T : List (Addr × Str)) {α : Type} (args : α → List AV) (pre : α → Prop) (post : α → PyData → Prop) : Sp := fun vs H Q _ => ∃ a : α, Args none H vs (args a) ∧ pre a ∧ ∀ v d H', Ex T none H H' → Dt H' v d → post a d → Q v H'
/-- .. a new list -/
def SpL (T : List (Addr × Str)) {α : Type} (args : α → List AV) (pre : α → Prop) (post : α → List PyData → Prop) : Sp := fun vs H Q _ => ∃ a : α, Args none H vs (args a) ∧ pre a ∧ ∀ l ws ds H', Ex T none H H' → H l = none → H' l = some (.lst ws) → DtA H' ws ds → post a ds → Q (.ref l) H'
/-- .. that draws from the pen -/
def SpP (T : List (Addr × Str)) {α : Type} (args : α → List AV) (pre : α → Prop) (post : α → PyData → Prop) : Sp := fun vs H Q _ => ∃ (a : α) (P : PenD), Args (some P) H vs (.r (.ref P.p) :: args a) ∧ Pen P H ∧ pre a ∧ ∀ v d H', Ex T (some P) H H' → Dt H' v d → post a d → Q v H'
theorem SpD.ent {α : Type} {args : α → List AV} {pre : α → Prop} {post : α → PyData → Prop} {vs : List V} {Q : VK} {E : XK} {N : List Str} (h : SpD T args pre post vs H Q E) (hN : ∀ a, (args a).length ≤ N.length) :
    ∃ a, pre a ∧ Fr T none H [] (args a ++ List.replicate (N.length - (args a).length) .u) H (L2.start N vs) ∧ ∀ v d H', Ex T none H H' → Dt H' v d → post a d → Q v H' := by
  obtain ⟨a, h1, hp, q⟩ := h
  exact ⟨a, hp, Fr.start (fun _ z => nomatch z) h1 (by rw [h1.len]; exact hN a), q⟩
theorem SpL.ent {α : Type} {args : α → List AV} {pre : α → Prop} {post : α → List PyData → Prop} {vs : List V} {Q : VK} {E : XK} {N : List Str} (h : SpL T args pre post vs H Q E) (hN : ∀ a, (args a).length ≤ N.length) :
    ∃ a, pre a ∧ Fr T none H [] (args a ++ List.replicate (N.length - (args a).length) .u) H (L2.start N vs) ∧ ∀ l ws ds H', Ex T none H H' → H l = none → H' l = some (.lst ws) → DtA H' ws ds → post a ds → Q (.ref l) H' := by
  obtain ⟨a, h1, hp, q⟩ := h
  exact ⟨a, hp, Fr.start (fun _ z => nomatch z) h1 (by rw [h1.len]; exact hN a), q⟩
theorem SpP.ent {α : Type} {args : α → List AV} {pre : α → Prop} {post : α → PyData → Prop} {vs : List V} {Q : VK} {E : XK} {N : List Str} (h : SpP T args pre post vs H Q E) (hN : ∀ a, (args a).length + 1 ≤ N.length) :
    ∃ a P, pre a ∧ Fr T (some P) H [] (.r (.ref P.p) :: (args a ++ List.replicate (N.length - ((args a).length + 1)) .u)) H (L2.start N vs) ∧ ∀ v d H', Ex T (some P) H H' → Dt H' v d → post a d → Q v H' := by
  obtain ⟨a, P, h1, hpen, hp, q⟩ := h
  refine ⟨a, P, hp, Fr.start (fun P' e => ?_) h1 (by rw [h1.len]; exact hN a), q⟩
  cases e
  exact hpen
theorem Args.weak {H : Hp} : ∀ {vs : List V} {xs : List AV}, Args po H vs xs → Args none H vs xs
  | _, _, .nil => .nil
  | _, _, .cons (x := x) h n r => by
    refine .cons ?_ n (Args.weak r)
    cases x with
    | k xs =>
      obtain ⟨a, vs, h1, _, h3, h4⟩ := h
      exact ⟨a, vs, h1, NP.none, h3, h4⟩
    | l xs => exact absurd rfl (n xs)
    | u => exact h
    | d x => exact h
    | r v => exact h
theorem ev_call {α : Type} {args : α → List AV} {pre : α → Prop} {post : α → PyData → Prop} {E : XK} {Pa : List AV → Prop} (h : EvA T po Hb gs env tr Pa) (i : ∀ xs, Pa xs → ∃ a, xs = args a ∧ pre a ∧ ∀ d, post a d → Pd d) : Ev T po Hb gs env (tCall (SpD T args pre post) [] E tr) Pd := fun σ H F Q q => by
  refine h σ H F _ fun vs xs H1 e1 F1 r1 p1 => ?_
  obtain ⟨a, rfl, hp, hq⟩ := i xs p1
  rw [List.append_nil]
  exact ⟨a, r1.weak, hp, fun v d H' e r p => q v d H' (e1.trans e.weak) (F1.mono e.weak) r (hq d p)⟩
theorem el_call {α : Type} {args : α → List AV} {pre : α → Prop} {post : α → List PyData → Prop} {E : XK} {Pa : List AV → Prop} (h : EvA T po Hb gs env tr Pa) (i : ∀ xs, Pa xs → ∃ a, xs = args a ∧ pre a ∧ ∀ d, post a d → Pl d) : EvL T po Hb gs env (tCall (SpL T args pre post) [] E tr) Pl := fun σ H F Q q => by
  refine h σ H F _ fun vs xs H1 e1 F1 r1 p1 => ?_
  obtain ⟨a, rfl, hp, hq⟩ := i xs p1
  rw [List.append_nil]
  exact ⟨a, r1.weak, hp, fun l ws ds H' e n hl r p => q l ws ds H' (e1.trans e.weak) (F1.mono e.weak) (e1.dom l n) hl r (hq ds p)⟩
theorem ev_draw {P : PenD} {α : Type} {args : α → List AV} {pre : α → Prop} {post : α → PyData → Prop} {E : XK} {Pa : List AV → Prop} (h : EvA T (some P) Hb gs env tr Pa) (i : ∀ xs, Pa xs → ∃ a, xs = .r (.ref P.p) :: args a ∧ pre a ∧ ∀ d, post a d → Pd d) : Ev T (some P) Hb gs env (tCall (SpP T args pre post) [] E tr) Pd := fun σ H F Q q => by
  refine h σ H F _ fun vs xs H1 e1 F1 r1 p1 => ?_
  obtain ⟨a, rfl, hp, hq⟩ := i xs p1
  rw [List.append_nil]
  exact ⟨a, P, r1, F1.penNow P rfl, hp, fun v d H' e r p => q v d H' (e1.trans e) (F1.mono e) r (hq d p)⟩
/-- .. of told arguments -/
theorem ev_c {α : Type} {args : α → List AV} {pre : α → Prop} {post : α → PyData → Prop} {E : XK} (a : α) (h : EvA T po Hb gs env tr (· = args a)) (hp : pre a) : Ev T po Hb gs env (tCall (SpD T args pre post) [] E tr) (post a) := ev_call h fun xs e => ⟨a, e, hp, fun _ p => p⟩
theorem el_c {α : Type} {args : α → List AV} {pre : α → Prop} {post : α → List PyData → Prop} {E : XK} (a : α) (h : EvA T po Hb gs env tr (· = args a)) (hp : pre a) : EvL T po Hb gs env (tCall (SpL T args pre post) [] E tr) (post a) := el_call h fun xs e => ⟨a, e, hp, fun _ p => p⟩
theorem ev_p {P : PenD} {α : Type} {args : α → List AV} {pre : α → Prop} {post : α → PyData → Prop} {E : XK} (a : α) (h : EvA T (some P) Hb gs env tr (· = .r (.ref P.p) :: args a)) (hp : pre a) : Ev T (some P) Hb gs env (tCall (SpP T args pre post) [] E tr) (post a) := ev_draw h fun xs e => ⟨a, e, hp, fun _ p => p⟩
end
end K22
/-! KM: houses, routes, ways, histories as plain data; what the defs reckon of them. -/
namespace K22
open PySem L2

/-! ### the data -/
abbrev Con := List Nat
inductive Step where
  | when (c v : Nat) (s : Step) | set (c v : Nat) | copy (c d : Nat) | swap (c d : Nat) | add (c n : Nat)
inductive Node where
  | ans (a : Nat) | look (c : Nat) (goals : List Nat)
structure House where
  sizes : List Nat
  nodes : List Node
  qs : List Nat
  deeds : List (List Step)
inductive Item where
  | deed (k : Nat) | perhaps (k : Nat) | stir (c : Nat) | ask (q : Nat) | rest
  deriving DecidableEq
abbrev Route := List (Item × List Nat)
mutual
inductive Way where
  | fin | on (ws : Ways) | look (c : Nat) (ws : Ways)
inductive Ways where
  | nil | cons (n : Nat) (w : Way) (r : Ways)
end
/-- what happens, not told further; told -/
inductive UE where
  | item (i : Item) | saw (c v : Nat) | to (p : Nat)
  deriving DecidableEq
inductive TEv where
  | deed (k : Nat) | perhaps (k b : Nat) | stir (c v : Nat) | ask (q a : Nat) | rest | saw (c v : Nat) | to (p : Nat)
  deriving DecidableEq

/-! ### as Python's data -/
abbrev dN (n : Nat) : PyData := .int (n : Int)
abbrev dNs (ns : List Nat) : PyData := .tuple (ns.map dN)
abbrev encC (c : Con) : PyData := dNs c
abbrev encS (s : List Con) : PyData := .tuple (s.map encC)
def encStep : Step → PyData
  | .when c v s => .tuple [.str "when", dN c, dN v, encStep s]
  | .set c v => .tuple [.str "set", dN c, dN v]
  | .copy c d => .tuple [.str "copy", dN c, dN d]
  | .swap c d => .tuple [.str "swap", dN c, dN d]
  | .add c n => .tuple [.str "add", dN c, dN n]
def encNode : Node → PyData
  | .ans a => .tuple [.str "answer", dN a]
  | .look c goals => .tuple [.str "look", dN c, dNs goals]
abbrev encDeed (d : List Step) : PyData := .tuple (d.map encStep)
def encH (h : House) : PyData := .tuple [dNs h.sizes, .tuple (h.nodes.map encNode), dNs h.qs, .tuple (h.deeds.map encDeed)]
def encItem : Item → PyData
  | .deed k => .tuple [.str "deed", dN k]
  | .perhaps k => .tuple [.str "perhaps", dN k]
  | .stir c => .tuple [.str "stir", dN c]
  | .ask q => .tuple [.str "ask", dN q]
  | .rest => .tuple [.str "rest"]
abbrev encPlace (p : Item × List Nat) : PyData := .tuple [encItem p.1, dNs p.2]
abbrev encR (r : Route) : PyData := .tuple (r.map encPlace)
mutual
def encW : Way → PyData
  | .fin => .tuple [.str "end"]
  | .on ws => .tuple [.str "on", .dict (encWs ws)]
  | .look c ws => .tuple [.str "look", dN c, .dict (encWs ws)]
def encWs : Ways → List (PyData × PyData)
  | .nil => []
  | .cons n w r => (dN n, encW w) :: encWs r
end
def Ways.list : Ways → List (Nat × Way)
  | .nil => []
  | .cons n w r => (n, w) :: r.list
theorem encWs_list : ∀ ws : Ways, encWs ws = ws.list.map fun p => (dN p.1, encW p.2)
  | .nil => rfl
  | .cons n w r => by rw [encWs, Ways.list, List.map_cons, encWs_list r]
def encUE : UE → PyData
  | .item i => encItem i
  | .saw c v => .tuple [.str "saw", dN c, dN v]
  | .to p => .tuple [.str "to", dN p]
def encTE : TEv → PyData
  | .deed k => .tuple [.str "deed", dN k]
  | .perhaps k b => .tuple [.str "perhaps", dN k, dN b]
  | .stir c v => .tuple [.str "stir", dN c, dN v]
  | .ask q a => .tuple [.str "ask", dN q, dN a]
  | .rest => .tuple [.str "rest"]
  | .saw c v => .tuple [.str "saw", dN c, dN v]
  | .to p => .tuple [.str "to", dN p]
abbrev encHist (h : List TEv) : PyData := .tuple (h.map encTE)
abbrev encUEs (h : List UE) : PyData := .tuple (h.map encUE)
abbrev encPart (p : Nat × List Con) : PyData := .tuple [dN p.1, encS p.2]

def Step.dep : Step → Nat
  | .when _ _ s => s.dep + 1
  | _ => 1
/-! ### what is reckoned -/
def stepC (sizes : List Nat) : Step → Con → Con
  | .when c v s, x => if x.getD c 0 = v then stepC sizes s x else x
  | .set c v, x => x.set c v
  | .copy c d, x => x.set c (x.getD d 0)
  | .swap c d, x => (x.set c (x.getD d 0)).set d (x.getD c 0)
  | .add c n, x => x.set c ((x.getD c 0 + n) % sizes.getD c 1)
def doneC (h : House) (k : Nat) (x : Con) : Con := (h.deeds.getD k []).foldl (fun x s => stepC h.sizes s x) x
def ansFrom (nodes : List Node) (x : Con) : Nat → Nat → Nat
  | 0, _ => 0
  | f + 1, i => match nodes.getD i (.ans 0) with
    | .ans a => a
    | .look c goals => ansFrom nodes x f (goals.getD (x.getD c 0) 0)
def ansC (h : House) (q : Nat) (x : Con) : Nat := ansFrom h.nodes x h.nodes.length (h.qs.getD q 0)
def verdictC (h : House) (q : Nat) : List Con → Option Nat
  | [] => none
  | x :: r => if r.all (fun y => decide (ansC h q y = ansC h q x)) = true then some (ansC h q x) else none
def codeC (x : Con) : Int := TS.code 64 (x.map fun (n : Nat) => (n : Int))
/-- r has just the contents of xs, ascending -/
def IsSet (r xs : List Con) : Prop := r.Pairwise (fun a b => codeC a < codeC b) ∧ ∀ x, x ∈ r ↔ x ∈ xs
def insC (x : Con) : List Con → List Con
  | [] => [x]
  | y :: r => if codeC x < codeC y then x :: y :: r else if codeC x = codeC y then y :: r else y :: insC x r
def norm : List Con → List Con
  | [] => []
  | x :: r => insC x (norm r)
def behindC (h : House) : Item → List Con → List Con
  | .deed k, s => norm (s.map (doneC h k))
  | .perhaps k, s => norm (s ++ s.map (doneC h k))
  | .stir c, s => norm (s.flatMap fun x => (List.range (h.sizes.getD c 0)).map fun v => x.set c v)
  | .ask _, s => s
  | .rest, s => s
def sawC (s : List Con) (c v : Nat) : List Con := s.filter fun x => decide (x.getD c 0 = v)
def partedC (h : House) (s : List Con) (c : Nat) : List (Nat × List Con) := (List.range (h.sizes.getD c 0)).filterMap fun v => if sawC s c v = [] then none else some (v, sawC s c v)
def blocked (h : House) (s : List Con) : Item → Bool
  | .ask q => (verdictC h q s).isNone
  | _ => false
def goC (h : House) (r : Route) (p : Nat) (s : List Con) : Option (List (Nat × List Con)) :=
  match r[p]? with
  | none => none
  | some (it, nexts) => if blocked h s it = true then none else some (nexts.map fun n => (n, behindC h it s))

/-! ### houses, contents that are right -/
def ConOk (sizes : List Nat) (x : Con) : Prop := x.length = sizes.length ∧ ∀ (i v z : Nat), x[i]? = some v → sizes[i]? = some z → v < z
def StepOk (sizes : List Nat) : Step → Prop
  | .when c v s => c < sizes.length ∧ StepOk sizes s
  | .set c v => ∃ z, sizes[c]? = some z ∧ v < z
  | .copy c d => ∃ z, sizes[c]? = some z ∧ sizes[d]? = some z
  | .swap c d => ∃ z, sizes[c]? = some z ∧ sizes[d]? = some z ∧ c ≠ d
  | .add c n => c < sizes.length
def NodeOk (sizes : List Nat) (i m : Nat) : Node → Prop
  | .ans _ => True
  | .look c goals => ∃ z, sizes[c]? = some z ∧ goals.length = z ∧ ∀ g ∈ goals, i < g ∧ g < m
structure HouseOk (h : House) : Prop where
  s1 : 1 ≤ h.sizes.length
  s3 : h.sizes.length ≤ 3
  sz : ∀ z ∈ h.sizes, 2 ≤ z ∧ z ≤ 4
  prod : h.sizes.foldl (· * ·) 1 ≤ 8
  nodes : ∀ i n, h.nodes[i]? = some n → NodeOk h.sizes i h.nodes.length n
  nmost : h.nodes.length ≤ 12
  q1 : 1 ≤ h.qs.length
  q3 : h.qs.length ≤ 3
  qs : ∀ q ∈ h.qs, q < h.nodes.length
  dmost : h.deeds.length ≤ 6
  deeds : ∀ d ∈ h.deeds, d.length ≤ 6 ∧ ∀ s ∈ d, StepOk h.sizes s ∧ s.dep ≤ 4
/-- a set of contents of the house -/
structure SetOk (h : House) (s : List Con) : Prop where
  ne : s ≠ []
  all : ∀ x ∈ s, ConOk h.sizes x
  nd : s.Nodup
def ItemOk (h : House) : Item → Prop
  | .deed k => k < h.deeds.length
  | .perhaps k => k < h.deeds.length
  | .stir c => c < h.sizes.length
  | .ask q => q < h.qs.length
  | .rest => True
structure RouteOk (h : House) (r : Route) : Prop where
  ne : 1 ≤ r.length
  most : r.length ≤ 2
  items : ∀ p ∈ r, ItemOk h p.1
  nexts : ∀ (i : Nat) (it : Item) (ns : List Nat), r[i]? = some (it, ns) → ns ≠ [] ∧ ns.length ≤ 3 ∧ ns.Nodup ∧ ∀ n ∈ ns, n < r.length ∧ (n = 0 ∨ i < n)

/-! ### looked up -/
theorem at_nat {α β : Type} {f : α → β} {xs : List α} {i : Nat} {x : α} (h : xs[i]? = some x) : atI (xs.map f) (i : Int) = some (f x) := atI_nat (by rw [List.getElem?_map, h]; rfl)
theorem at_N {xs : List Nat} {i x : Nat} (h : xs[i]? = some x) : atI (xs.map dN) (i : Int) = some (.int (x : Int)) := at_nat (f := dN) h
theorem at_Node {xs : List Node} {i : Nat} {x : Node} (h : xs[i]? = some x) : atI (xs.map encNode) (i : Int) = some (encNode x) := at_nat (f := encNode) h
theorem at_Deed {xs : List (List Step)} {i : Nat} {x : List Step} (h : xs[i]? = some x) : atI (xs.map encDeed) (i : Int) = some (.tuple (x.map encStep)) := at_nat (f := encDeed) h
theorem at_C {xs : List Con} {i : Nat} {x : Con} (h : xs[i]? = some x) : atI (xs.map encC) (i : Int) = some (encC x) := at_nat (f := encC) h
theorem at_Pl {xs : Route} {i : Nat} {x : Item × List Nat} (h : xs[i]? = some x) : atI (xs.map encPlace) (i : Int) = some (.tuple [encItem x.1, dNs x.2]) := at_nat (f := encPlace) h
theorem dNs_snoc (z : List Nat) (c : Nat) : dNs (z ++ [c]) = .tuple (z.map dN ++ [dN c]) := congrArg PyData.tuple List.map_append
theorem getD_of {α : Type} {xs : List α} {i : Nat} {x d : α} (h : xs[i]? = some x) : xs.getD i d = x := by rw [List.getD_eq_getElem?_getD, h]; rfl
theorem at_sz {α : Type} {xs : List α} {i : Nat} (h : i < xs.length) (d : α) : xs[i]? = some (xs.getD i d) := by
  rw [List.getD_eq_getElem?_getD, List.getElem?_eq_getElem h]
  rfl
/-! ### deeds keep contents right -/
theorem ConOk.get {sizes : List Nat} {x : Con} (h : ConOk sizes x) {c z : Nat} (hz : sizes[c]? = some z) : x[c]? = some (x.getD c 0) ∧ x.getD c 0 < z ∧ c < x.length := by
  have hc : c < x.length := by rw [h.1]; exact (List.getElem?_eq_some_iff.mp hz).1
  have e := at_sz hc 0
  exact ⟨e, h.2 c _ z e hz, hc⟩
theorem ConOk.set {sizes : List Nat} {x : Con} (h : ConOk sizes x) {c v z : Nat} (hz : sizes[c]? = some z) (hv : v < z) : ConOk sizes (x.set c v) := by
  refine ⟨by rw [List.length_set]; exact h.1, fun i u y hu hy => ?_⟩
  by_cases e : c = i
  · subst e
    rw [List.getElem?_set_self (h.get hz).2.2] at hu
    cases hu
    rw [hz] at hy
    cases hy
    exact hv
  · rw [List.getElem?_set_ne e] at hu
    exact h.2 i u y hu hy
theorem stepC_ok {sizes : List Nat} (hs : ∀ z ∈ sizes, 2 ≤ z) : ∀ {s : Step} {x : Con}, StepOk sizes s → ConOk sizes x → ConOk sizes (stepC sizes s x)
  | .when c v s, x, h, hx => by
    unfold stepC
    split
    · exact stepC_ok hs h.2 hx
    · exact hx
  | .set c v, x, ⟨z, h1, h2⟩, hx => hx.set h1 h2
  | .copy c d, x, ⟨z, h1, h2⟩, hx => hx.set h1 (hx.get h2).2.1
  | .swap c d, x, ⟨z, h1, h2, h3⟩, hx => (hx.set h1 (hx.get h2).2.1).set h2 (hx.get h1).2.1
  | .add c n, x, h, hx => by
    have e := at_sz h 1
    refine hx.set e (Nat.mod_lt _ ?_)
    have := hs _ (List.mem_of_getElem? e)
    omega
theorem doneC_ok {h : House} (ho : HouseOk h) {k : Nat} {x : Con} (hk : k < h.deeds.length) (hx : ConOk h.sizes x) : ConOk h.sizes (doneC h k x) := by
  have e := at_sz hk []
  have hd := ho.deeds _ (List.mem_of_getElem? e)
  unfold doneC
  have go : ∀ (l : List Step) (x : Con), (∀ s ∈ l, StepOk h.sizes s) → ConOk h.sizes x → ConOk h.sizes (l.foldl (fun x s => stepC h.sizes s x) x) := by
    intro l
    induction l with
    | nil => exact fun x _ hx => hx
    | cons s r ih => exact fun x h1 hx => ih _ (fun t ht => h1 t (List.mem_cons_of_mem _ ht)) (stepC_ok (fun z hz => (ho.sz z hz).1) (h1 s List.mem_cons_self) hx)
  exact go _ x (fun s hs => (hd.2 s hs).1) hx
end K22
/-! KN: dicts whose keys are nested tuples, over the abstract heap. -/
namespace K22
open PySem PySem.Spec L2 LamX

/-! ### keys as data -/
mutual
def kd : NestedKey → PyData
  | .none => .none
  | .num i => .int i
  | .text x => .str x
  | .tup ks => .tuple (kds ks)
def kds : List NestedKey → List PyData
  | [] => []
  | k :: r => kd k :: kds r
end
/-! tables of data by nested keys -/
abbrev NT := List (NestedKey × PyData)
def valN (t : NT) (k : NestedKey) : Option PyData := (t.find? fun p => decide (p.1 = k)).map (·.2)
def setN (t : NT) (k : NestedKey) (d : PyData) : NT := if (valN t k).isSome = true then t.map (fun p => if p.1 = k then (p.1, d) else p) else t ++ [(k, d)]
theorem setN_len (t : NT) (k : NestedKey) (d : PyData) : (setN t k d).length ≤ t.length + 1 := by
  unfold setN
  split
  · rw [List.length_map]; omega
  · rw [List.length_append, List.length_singleton]; omega
/-- one entry: the key's tuple, the value -/
def EntN (H : Hp) (p : NestedKey × PyData) (x : NestedKey × Addr × Value) : Prop := p.1 = x.1 ∧ Dt H (.ref x.2.1) (kd p.1) ∧ p.1.depth ≤ 8 ∧ ∃ v, RelV v x.2.2 ∧ Dt H v p.2
theorem EntN.mono {H H' : Hp} (t : Tk H H') {p : NestedKey × PyData} {x : NestedKey × Addr × Value} (h : EntN H p x) : EntN H' p x :=
  let ⟨h1, h2, h3, v, h4, h5⟩ := h
  ⟨h1, h2.mono t, h3, v, h4, h5.mono t⟩
abbrev EntsN (H : Hp) : NT → List (NestedKey × Addr × Value) → Prop := Paired (EntN H)
theorem EntsN.mono {H H' : Hp} (t : Tk H H') {kvs : NT} {xs : List (NestedKey × Addr × Value)} (h : EntsN H kvs xs) : EntsN H' kvs xs := by
  induction h with
  | nil => exact .nil
  | cons h _ ih => exact .cons (h.mono t) ih
theorem EntsN.find {H : Hp} {kvs : NT} {xs : List (NestedKey × Addr × Value)} (h : EntsN H kvs xs) (k : NestedKey) :
    (valN kvs k = none ∧ atKey xs k = none) ∨ ∃ d b u v, valN kvs k = some d ∧ atKey xs k = some (b, u) ∧ RelV v u ∧ Dt H v d := by
  induction h with
  | nil => exact .inl ⟨rfl, rfl⟩
  | @cons p x ps qs h _ ih =>
    obtain ⟨h1, h2, h3, v, h4, h5⟩ := h
    by_cases e : p.1 = k
    · refine .inr ⟨p.2, x.2.1, x.2.2, v, ?_, ?_, h4, h5⟩
      · simp [valN, List.find?_cons, e]
      · simp [atKey, List.find?_cons, h1.symm.trans e]
    · have e' : ¬ x.1 = k := fun z => e (h1.trans z)
      have a : valN (p :: ps) k = valN ps k := by simp [valN, List.find?_cons, e]
      have b : atKey (x :: qs) k = atKey qs k := by simp [atKey, List.find?_cons, e']
      rw [a, b]
      exact ih
theorem EntsN.set {H : Hp} {kvs : NT} {xs : List (NestedKey × Addr × Value)} (h : EntsN H kvs xs) {k : NestedKey} {b : Addr} {v : V} {u : Value} {d : PyData} (hk : Dt H (.ref b) (kd k)) (hdp : k.depth ≤ 8) (rv : RelV v u) (hv : Dt H v d) : EntsN H (setN kvs k d) (storedH xs k b u) := by
  have e : (valN kvs k).isSome = (atKey xs k).isSome := by
    rcases h.find k with ⟨e1, e2⟩ | ⟨_, _, _, _, e1, e2, _⟩
    · rw [e1, e2]; rfl
    · rw [e1, e2]; rfl
  unfold setN storedH
  rw [e]
  split
  · rename_i hq
    clear e hq
    induction h with
    | nil => exact .nil
    | @cons p x ps qs h _ ih =>
      rw [List.map_cons, List.map_cons]
      refine .cons ?_ ih
      obtain ⟨h1, h2, h3, w, h4, h5⟩ := h
      unfold putAt
      by_cases z : p.1 = k
      · rw [if_pos z, if_pos (h1.symm.trans z)]
        exact ⟨h1, h2, h3, v, rv, hv⟩
      · rw [if_neg z, if_neg (fun q => z (h1.trans q))]
        exact ⟨h1, h2, h3, w, h4, h5⟩
  · exact K22.Paired.snoc h ⟨rfl, hk, hdp, v, rv, hv⟩

/-! ### a key's datum is the key -/
section
variable {P : Program} {w : World} {H : Hp} {h : Heap}
mutual
theorem key_nest (ok : HOk P w H h) : ∀ (k : NestedKey) (v : V) (u : Value), Dt H v (kd k) → RelV v u → NestedIs h k u
  | .none, v, u, r, q => by
    unfold kd at r
    rw [r.n] at q
    rw [show u = Value.none from q]
    exact .none
  | .num i, v, u, r, q => by
    unfold kd at r
    rw [r.i] at q
    obtain ⟨t, e⟩ := q
    rw [e]
    exact .int i t
  | .text x, v, u, r, q => by
    unfold kd at r
    rw [r.s] at q
    obtain ⟨t, e⟩ := q
    rw [e]
    exact .text x t
  | .tup ks, v, u, r, q => by
    unfold kd at r
    obtain ⟨a, xs, e, h1, h2⟩ := r.t
    rw [e] at q
    rw [show u = Value.ref a from q]
    obtain ⟨_, its, rv, o, g1, g2, n, g3⟩ := (show ObjOk P w H h a (.tup xs) from ok a _ h1)
    exact .tup g1 g2 g3 (keys_nest ok ks xs its h2 rv)
theorem keys_nest (ok : HOk P w H h) : ∀ (ks : List NestedKey) (vs : List V) (us : List Value), DtA H vs (kds ks) → Vals vs us → NestedAll h ks us
  | [], vs, us, r, q => by
    unfold kds at r
    cases r
    cases q
    exact .nil
  | k :: ks, vs, us, r, q => by
    unfold kds at r
    cases r with
    | cons r1 r2 =>
      cases q with
      | cons q1 q2 => exact .cons (key_nest ok k _ _ r1 q1) (keys_nest ok ks _ _ r2 q2)
end
end
theorem key_is {P : Program} {w : World} {H : Hp} {h : Heap} (ok : HOk P w H h) {k : NestedKey} {b : Addr} (r : Dt H (.ref b) (kd k)) (hd : k.depth ≤ 8) : (nestedKind P w).is h k b := ⟨key_nest ok k _ _ r rfl, hd⟩

/-! ### the dict's object -/
/-- the dict at a is just this object, its entries these -/
def DNr (P : Program) (w : World) (a : Addr) (o : Obj) (xs : List (NestedKey × Addr × Value)) (h : Heap) : Prop :=
  h.get? a = some o ∧ (a == sysModules) = false ∧ o.ExactDict ∧ (∃ es ep, o.data = .dict es ep ∧ es.toList = xs.map (entryOfKey (nestedKind P w))) ∧ (xs.map (·.1)).Nodup
abbrev DNo (P : Program) (w : World) (a : Addr) (o : Obj) (xs : List (NestedKey × Addr × Value)) : HO := .ext (DNr P w a o xs)
/-- at a stands a dict of these -/
def DN (P : Program) (w : World) (H : Hp) (a : Addr) (kvs : NT) : Prop := kvs.length ≤ sizeLine ∧ ∃ o xs, H a = some (DNo P w a o xs) ∧ EntsN H kvs xs ∧ ∃ h, DNr P w a o xs h
theorem DN.keep {P : Program} {w : World} {T : List (Addr × Str)} {po : Option PenD} {H H' : Hp} {a : Addr} {kvs : NT} (e : Ex T po H H') (np : NP po a) (h : DN P w H a kvs) : DN P w H' a kvs :=
  let ⟨z, o, xs, h1, h2, h3⟩ := h
  ⟨z, o, xs, e.keep a _ np (fun _ q => nomatch q) h1, h2.mono e.tup, h3⟩
section
variable {X : Cx} {pins : List (Addr × Obj)} {σ : L2.St} {H : Hp} {s : Shared} {a : Addr} {kvs : NT}
theorem dn_obj {P : Program} {w : World} {h : Heap} {o : Obj} {xs : List (NestedKey × Addr × Value)} (hu : DNr P w a o xs h) {H' : Hp} : ObjOk P w H' h a (DNo P w a o xs) :=
  ⟨hu, ⟨o, hu.1⟩, fun _ _ p k => ⟨k _ p.1, p.2⟩⟩
theorem ents_is {P : Program} {w : World} {h : Heap} (ok : HOk P w H h) {xs : List (NestedKey × Addr × Value)} (r : EntsN H kvs xs) : ∀ x ∈ xs, (nestedKind P w).is h x.1 x.2.1 := by
  induction r with
  | nil => exact fun x hx => nomatch hx
  | @cons p q ps qs h1 _ ih =>
    intro x hx
    rcases List.mem_cons.mp hx with rfl | hx
    · obtain ⟨e1, e2, e3, _⟩ := h1
      rw [← e1]
      exact key_is ok e2 e3
    · exact ih x hx
theorem dn_raw (I : Inv X pins σ H s) {o : Obj} {xs : List (NestedKey × Addr × Value)} (h : H a = some (DNo X.prog X.w a o xs)) (r : EntsN H kvs xs) : (a == sysModules) = false ∧ s.heap.DictOfH (nestedKind X.prog X.w) a xs := by
  obtain ⟨⟨h1, h2, h3, ⟨es, ep, h4, h5⟩, h6⟩, _⟩ := (show ObjOk X.prog X.w H s.heap a (DNo X.prog X.w a o xs) from I.hok a _ h)
  exact ⟨h2, o, es, ep, h1, h3, h4, h5, ents_is I.hok r, h6⟩
theorem dn_of {P : Program} {w : World} {h : Heap} {xs : List (NestedKey × Addr × Value)} (hs : (a == sysModules) = false) (d : h.DictOfH (nestedKind P w) a xs) : ∃ o, DNr P w a o xs h := by
  obtain ⟨o, es, ep, h1, h2, h3, h4, _, h6⟩ := d
  exact ⟨o, h1, hs, h2, ⟨es, ep, h3, h4⟩, h6⟩
end
/-- {} -/
def tDNew (P : Program) (w : World) : TE := fun _ H Q => ∀ p o, H p = none → (∃ h, DNr P w p o [] h) → Q (.ref p) (upd H p (DNo P w p o []))
theorem pe_dnewN {X : Cx} {pos : Pos} : PE X (.Dict [] [] pos) (tDNew X.prog X.w) := by
  refine ⟨fun pins s σ H Q I h => ?_⟩
  have hb : (s.heap.objs.size == sysModules) = false := beq_eq_false_iff_ne.mpr (Ne.symm (Nat.ne_of_lt I.big))
  obtain ⟨o, ho⟩ := dn_of hb (Heap.DictOfH.new (knd := nestedKind X.prog X.w) s.heap)
  exact wpAny_Dict_empty ⟨.ref s.heap.objs.size, _, I.laid (a := s.heap.objs.size) (o := DNo X.prog X.w s.heap.objs.size o []) (t' := s.toks) (fun _ _ q => Heap.get?_push_of_some _ q) (Nat.le_refl _) (dn_obj ho), rfl, h _ o (I.hok.fresh (Nat.le_refl _)) ⟨_, ho⟩⟩
/-- d[y], told -/
def tNGet (P : Program) (w : World) (td ty : TE) : TE := fun σ H Q => td σ H fun x H1 => ty σ H1 fun y H2 => ∃ a b kvs k d, x = .ref a ∧ y = .ref b ∧ DN P w H2 a kvs ∧ Dt H2 y (kd k) ∧ k.depth ≤ 8 ∧ valN kvs k = some d ∧ ∀ v, Dt H2 v d → Q v H2
/-- y not in d -/
def tNNotIn (P : Program) (w : World) (ty td : TE) : TE := fun σ H Q => ty σ H fun y H1 => td σ H1 fun x H2 => ∃ a b kvs k, x = .ref a ∧ y = .ref b ∧ DN P w H2 a kvs ∧ Dt H2 y (kd k) ∧ k.depth ≤ 8 ∧ Q (.bl (!(valN kvs k).isSome)) H2
/-- d[y] = v -/
def sNSet (P : Program) (w : World) (td ty tv : TE) : TS := fun D σ H => tv σ H fun v H1 => td σ H1 fun x H2 => ty σ H2 fun y H3 => ∃ a b kvs k d, x = .ref a ∧ y = .ref b ∧ DN P w H3 a kvs ∧ Dt H3 y (kd k) ∧ k.depth ≤ 8 ∧ kvs.length < sizeLine ∧ Dt H3 v d ∧
  ∀ o xs, DN P w (upd H3 a (DNo P w a o xs)) a (setN kvs k d) → D.nx σ (upd H3 a (DNo P w a o xs))
section
variable {X : Cx} {o i value : Expr} {pos pos' tpos : Pos} {td ty tv : TE}
theorem pe_nget (hu : X.A.units + 9 < cLine) (ho : PE X o td) (hi : PE X i ty) (hs : NoSl i) : PE X (.Subscript o i pos) (tNGet X.prog X.w td ty) := by
  refine ⟨fun pins s σ H Q I h => ?_⟩
  refine subD_of PySem.F.slot_dict_getitem.lookup hs (thn (ho.run pins s σ H _ I h) fun u s1 ⟨x, H1, I1, rx, q1⟩ => thn (hi.run pins s1 σ H1 _ I1 q1) fun iv s2 ⟨y, H2, I2, ry, a, b, kvs, k, d, ex, ey, ⟨_, ob, xs, e1, e2, _⟩, hk, hdp, hv, q2⟩ => ?_)
  subst ex
  subst ey
  obtain rfl : u = Value.ref a := rx
  obtain rfl : iv = Value.ref b := ry
  obtain ⟨h1, h2⟩ := dn_raw I2 e1 e2
  rcases e2.find k with ⟨z, _⟩ | ⟨d', b', u', v', z1, z2, z3, z4⟩
  · rw [hv] at z
    cases z
  · rw [hv] at z1
    cases z1
    exact ⟨h2.typeIs, wpAny_getItem_heap (show X.A.in1.units + 8 < cLine by simp only [Around.in1_units]; omega) (key_is I2.hok hk hdp) h2 z2 ⟨v', H2, I2.tok _, z3, q2 v' z4⟩⟩
theorem pc_nnotin (hu : X.A.units + 9 < cLine) (hi : PE X i ty) (ho : PE X o td) : PC X .NotIn i o (tNNotIn X.prog X.w ty td) := by
  refine ⟨fun pins s σ H Q I h => ?_⟩
  refine thn (hi.run pins s σ H _ I h) fun iv s1 ⟨y, H1, I1, ry, q1⟩ => thn (ho.run pins s1 σ H1 _ I1 q1) fun u s2 ⟨x, H2, I2, rx, a, b, kvs, k, ex, ey, ⟨_, ob, xs, e1, e2, _⟩, hk, hdp, q2⟩ => ?_
  subst ex
  subst ey
  obtain rfl : u = Value.ref a := rx
  obtain rfl : iv = Value.ref b := ry
  obtain ⟨h1, h2⟩ := dn_raw I2 e1 e2
  refine PyProof.Rows.wpAny_notIn_heap (show X.A.in1.units + 8 < cLine by simp only [Around.in1_units]; omega) (key_is I2.hok hk hdp) h1 h2 ?_
  have e : (atKey xs k).isSome = (valN kvs k).isSome := by
    rcases e2.find k with ⟨z1, z2⟩ | ⟨_, _, _, _, z1, z2, _⟩
    · rw [z1, z2]; rfl
    · rw [z1, z2]; rfl
  rw [e]
  exact ⟨.bl _, H2, I2.tok _, rfl, q2⟩
theorem dn_set {pins : List (Addr × Obj)} {σ : L2.St} {H : Hp} {s : Shared} {a b : Addr} {kvs : NT} {k : NestedKey} {d : PyData} {v : V} {u : Value} {h' : Heap} {t : Nat} {xs : List (NestedKey × Addr × Value)} {ob : Obj} (I : Inv X pins σ H s)
    (e1 : H a = some (DNo X.prog X.w a ob xs)) (e2 : EntsN H kvs xs) (hk : Dt H (.ref b) (kd k)) (hdp : k.depth ≤ 8) (hz : kvs.length < sizeLine) (hs : (a == sysModules) = false) (rv : RelV v u) (hv : Dt H v d) (dd : h'.DictOfH (nestedKind X.prog X.w) a (storedH xs k b u)) (hb : Heap.SameBut a s.heap h') :
    ∃ o, DN X.prog X.w (upd H a (DNo X.prog X.w a o (storedH xs k b u))) a (setN kvs k d) ∧ Inv X pins σ (upd H a (DNo X.prog X.w a o (storedH xs k b u))) { s with heap := h', toks := t } := by
  obtain ⟨o, ho⟩ := dn_of hs dd
  have tk : Tk H (upd H a (DNo X.prog X.w a o (storedH xs k b u))) := .of fun c z hz q => by
    rw [upd_ne (ne_of q e1 (fun w => by subst w; exact hz))]
    exact q
  refine ⟨o, ⟨by have := setN_len kvs k d; omega, o, _, upd_same, (e2.set hk hdp rv hv).mono tk, _, ho⟩, ?_⟩
  exact d_write I (by rw [e1]; exact True.intro) hb ⟨o, ho.1⟩ (dn_obj ho)
theorem ps_nset (hu : X.A.units + 9 < cLine) (ho : PE X o td) (hi : PE X i ty) (hv : PE X value tv) (hs : swapsWith value (some (.Subscript o i pos')) pos.line X.env = pure false) :
    PS X (.Assign [.Subscript o i pos'] value pos) (sNSet X.prog X.w td ty tv) := by
  refine ⟨fun pins s σ H D I h => ?_⟩
  refine wpAny_Assign_Subscript (thn (hv.run pins s σ H _ I h) fun r s1 ⟨v, H1, I1, rv, q1⟩ => thn (ho.run pins s1 σ H1 _ I1 q1) fun u s2 ⟨x, H2, I2, rx, q2⟩ => thn (hi.run pins s2 σ H2 _ I2 q2) fun iv s3 ⟨y, H3, I3, ry, a, b, kvs, k, d, ex, ey, ⟨_, ob, xs, e1, e2, _⟩, hk, hdp, hz, hdv, q3⟩ => ?_) hs
  subst ex
  subst ey
  obtain rfl : u = Value.ref a := rx
  obtain rfl : iv = Value.ref b := ry
  obtain ⟨h1, h2⟩ := dn_raw I3 e1 e2
  refine wpAny_setItem_heap (hsz := by rw [← e2.length]; omega) (show X.A.in1.units + 8 < cLine by simp only [Around.in1_units]; omega) (key_is I3.hok hk hdp) h2 fun h' dd hb => ?_
  obtain ⟨o', hd', I4⟩ := dn_set (t := s3.toks + (nestedKind X.prog X.w).draws k) I3 e1 e2 hk hdp hz h1 rv hdv dd hb
  exact ⟨σ, _, I4, q3 o' _ hd'⟩
end

/-! ### walked by its keys -/
def ItN (P : Program) (w : World) (a : Addr) (o : Obj) (xs : List (NestedKey × Addr × Value)) : It :=
  ⟨fun i H => H a = some (DNo P w a o xs) ∧ i < xs.length, fun i H x H' => H' = H ∧ ∃ y, xs[i]? = some y ∧ x = .ref y.2.1, fun i H => H a = some (DNo P w a o xs) ∧ xs.length ≤ i⟩
theorem ents_len {es : Array DictEntry} {P : Program} {w : World} {xs : List (NestedKey × Addr × Value)} (h : es.toList = xs.map (entryOfKey (nestedKind P w))) : es.size = xs.length := by
  have q := congrArg List.length h
  rw [List.length_map, Array.length_toList] at q
  exact q
theorem dn_now {X : Cx} {pins : List (Addr × Obj)} {σ : L2.St} {H : Hp} {s : Shared} {a : Addr} {o : Obj} {xs : List (NestedKey × Addr × Value)} (I : Inv X pins σ H s) (h : H a = some (DNo X.prog X.w a o xs)) : DNr X.prog X.w a o xs s.heap :=
  (show ObjOk X.prog X.w H s.heap a (DNo X.prog X.w a o xs) from I.hok a _ h).1
theorem turn_nk {P : Program} {w : World} {K : PySem.W.Frag} {tg : Expr} {d : Addr} {o : Obj} {xs : List (NestedKey × Addr × Value)} {es : Array DictEntry} {ep : Nat} (it : Addr) (hod : o.data = .dict es ep) (hes : es.toList = xs.map (entryOfKey (nestedKind P w))) :
    Turn P w K tg (ItN P w d o xs) [it] it (fun i h => h.IsKeyIter it d i xs.length ep) := by
  constructor
  case mem => simp
  case obj =>
    intro i h st b hb
    obtain rfl : b = it := by simpa using hb
    obtain ⟨oi, e, c, dd⟩ := st
    exact ⟨oi, e, fun v z => by rw [dd] at z; cases z⟩
  case keep => exact fun i h h' st k => st.at fun oi e => k it (by simp) oi e
  case item =>
    intro X hP hw hK hc i pins s σ H E I hf st hg
    subst hP
    subst hw
    subst hK
    obtain ⟨f0, f1, f2, f3, f4, f5⟩ := hf it (by simp)
    have hi := hg.2
    have hq : es[i]? = some (entryOfKey (nestedKind X.prog X.w) xs[i]) := by rw [entry_at hes i, List.getElem?_eq_getElem hi]; rfl
    refine next_key_item st (dn_now I hg.1).1 hod (ents_len hes) hq fun h' st' sb => ?_
    have I1 : Inv X pins σ H { s with heap := h' } := I.turned (t' := s.toks) (fun b ob hb e => (sb.2 b hb).trans e) f0 f1 f3 f4 f5
    obtain ⟨oi, e, c, dd⟩ := id st'
    exact ⟨_, rfl, go_of (s := { s with heap := h' }) e c dd (by decide) ⟨.ref (xs[i]).2.1, H, I1, rfl, ⟨rfl, xs[i], List.getElem?_eq_getElem hi, rfl⟩, st', fun b hb => (hf b hb).1⟩⟩
  case done =>
    intro X hP hw hK hc i pins s σ H E I hf st hg
    subst hP
    subst hw
    subst hK
    obtain ⟨f0, f1, f2, f3, f4, f5⟩ := hf it (by simp)
    exact next_key_end (I.ok.hd hc) st (dn_now I hg.1).1 hod (ents_len hes) hg.2 fun h' eb => ⟨rfl, I.turned (t' := s.toks) (fun b ob hb e => eb b ob hb e) f0 f1 f3 f4 f5⟩
  case self =>
    intro A i s Q E st h
    refine wpAny_pyIter_slot st.typeIs F.slot_dict_keyiterator_iter (wpAny_call_entry F.slot_dict_keyiterator_iter st.typeIs F.entry_dict_keyiterator_iter ?_ (F.args_dict_keyiterator_iter_1 _))
    show wpAny _ _ (ret (.ref it)) _ _ s
    exact wpAny_pure ⟨_, rfl, "dict_keyiterator", _, st.typeIs, F.slot_dict_keyiterator_next.lookup, h⟩
def iKeysN (P : Program) (w : World) (td : TE) : TI := fun σ H R => td σ H fun x H1 => ∃ a o xs, x = .ref a ∧ H1 a = some (DNo P w a o xs) ∧ R (ItN P w a o xs) H1
theorem pi_keysN {X : Cx} {tg e : Expr} {td : TE} (he : PE X e td) : PI X tg e (iKeysN X.prog X.w td) := by
  refine ⟨fun pins s σ H R I h => ?_⟩
  refine thn (he.run pins s σ H _ I h) fun u s1 ⟨x, H1, I1, rx, a, o, xs, ex, hd, q⟩ => ?_
  subst ex
  obtain rfl : u = Value.ref a := rx
  obtain ⟨h1, h2, h3, ⟨es, ep, h4, h5⟩, _⟩ := dn_now I1 hd
  refine iter_keys h2 h1 h3 h4 (pi_one (tk := s1.toks) I1 _ (turn_nk _ h4 h5) ⟨_, Heap.get?_push_size _ rfl, rfl, ?_⟩ q)
  rw [ents_len h5]
  rfl
/-! ### list(d) -/
def rListN (P : Program) (w : World) : List V → Hp → VK → Prop := fun vs H Q => ∃ a o xs, vs = [V.ref a] ∧ H a = some (DNo P w a o xs) ∧ xs.length ≤ sizeLine ∧ ∀ p, H p = none → Q (.ref p) (upd H p (.lst (xs.map fun x => .ref x.2.1)))
theorem call_list_N {X : Cx} (hc : X.calm = true) : CallR X (.type "list") (rListN X.prog X.w) := by
  intro pins s σ H vs us Q I r h
  obtain ⟨a, o, xs, rfl, hd, hz, q⟩ := h
  obtain ⟨u, rfl, rx⟩ := r.one
  cases rx
  obtain ⟨h1, h2, h3, ⟨es, ep, h4, h5⟩, _⟩ := dn_now I hd
  have l1 := ents_len h5
  refine PySem.W.kdl_call (kdl_raw h2 h3 h4) (I.ok.hd hc) h1 (by omega) fun h' tk acc c kp e it => ?_
  have ea : acc.toList = (xs.map fun x => x.2.1).map Value.ref := by
    refine List.ext_getElem? fun j => ?_
    have hl : acc.size = xs.length := it.1.trans l1
    by_cases hj : j < xs.length
    · obtain ⟨en, hen, hv⟩ := it.2 j _ (Array.getElem?_eq_getElem (by omega : j < acc.size))
      rw [entry_at h5 j, List.getElem?_eq_getElem hj] at hen
      have z : en = entryOfKey (nestedKind X.prog X.w) xs[j] := (Option.some.inj hen).symm
      rw [Array.getElem?_toList, Array.getElem?_eq_getElem (by omega : j < acc.size), hv, z, List.getElem?_map, List.getElem?_map, List.getElem?_eq_getElem hj]
      rfl
    · rw [Array.getElem?_toList, Array.getElem?_eq_none (by omega), List.getElem?_map, List.getElem?_map, List.getElem?_eq_none (by omega)]
      rfl
  refine ⟨.ref s.heap.objs.size, _, I.laid (o := .lst (xs.map fun x => .ref x.2.1)) kp (Nat.le_refl _) ?_, rfl, q _ (I.hok.fresh (Nat.le_refl _))⟩
  refine ⟨by rw [List.length_map]; exact hz, acc.toList, c, ?_, by rw [Array.toArray_toList]; exact e⟩
  rw [ea]
  have z := vals_refs (xs.map fun x => x.2.1)
  rw [List.map_map] at z
  exact z

/-! ### {k: v for target in iter} -/
def tDcN (P : Program) (w : World) (wi : TI) (g : TG) (tk tv : TE) (vs : List Nat) : TE := fun σ H Q => wi σ H fun J H1 => ∀ D ob, H1 D = none → (∃ h, DNr P w D ob [] h) → ∃ W : Nat → Nat → Hp → Prop, (∃ m, W 0 m (upd H1 D (DNo P w D ob []))) ∧ ∀ i m H, W i m H →
  (J.stop i H ∧ Q (.ref D) H) ∨ (J.go i H ∧ ∃ Nx : Hp → Prop, (∀ H', Nx H' → ∃ m', m' < m ∧ W (i + 1) m' H') ∧ ∀ x H', J.yld i H x H' → g x (wipe σ vs) H' fun σ2 H2 => wipe σ2 vs = wipe σ vs ∧ tk σ2 H2 fun y H4 => tv σ2 H4 fun z H5 =>
    ∃ b kvs k d, y = .ref b ∧ DN P w H5 D kvs ∧ Dt H5 y (kd k) ∧ k.depth ≤ 8 ∧ kvs.length < sizeLine ∧ Dt H5 z d ∧ ∀ o xs, DN P w (upd H5 D (DNo P w D o xs)) D (setN kvs k d) → Nx (upd H5 D (DNo P w D o xs)))
section
variable {X : Cx}
theorem dn_store {E : Value → Shared → Prop} {pins : List (Addr × Obj)} {σ : L2.St} {H : Hp} {s : Shared} {D b : Addr} {kvs : NT} {k : NestedKey} {d : PyData} {v : V} {u r : Value} {Q : Unit → Shared → Prop} (hu : X.A.units + 8 < cLine) (I : Inv X pins σ H s) (hD : DN X.prog X.w H D kvs)
    (ru : RelV (.ref b) u) (hk : Dt H (.ref b) (kd k)) (hdp : k.depth ≤ 8) (hz : kvs.length < sizeLine) (rv : RelV v r) (hv : Dt H v d) (h : ∀ o xs s', DN X.prog X.w (upd H D (DNo X.prog X.w D o xs)) D (setN kvs k d) → Inv X pins σ (upd H D (DNo X.prog X.w D o xs)) s' → Q () s') :
    wpAny (model X.prog X.w) X.A (dictSet D u r) Q E s := by
  obtain ⟨_, ob, xs, e1, e2, _⟩ := hD
  obtain rfl : u = Value.ref b := ru
  obtain ⟨h1, h2⟩ := dn_raw I e1 e2
  refine wpAny_dictSet_heap (hsz := by rw [← e2.length]; omega) hu (key_is I.hok hk hdp) h2 fun h' dd hb => ?_
  obtain ⟨o', hd', I4⟩ := dn_set (t := s.toks + (nestedKind X.prog X.w).draws k) I e1 e2 hk hdp hz h1 rv hv dd hb
  exact h o' _ _ hd' I4
theorem pe_dcN {kx vx tg iter : Expr} {scope : Scope} {own : List (Str × Nat)} {pos : Pos} {wi : TI} {g : TG} {tk tv : TE} (hu : X.A.units + 8 < cLine) (hc : X.calm = true) (hN : X.N.Nodup) (hi : PI X tg iter wi) (ok : BlkOk X.N X.env.scope scope own)
    (hg : ∀ (s : Shared) (H : Hp) (C : Addr) (cl : List (Str × Addr)) (fp : List Addr), PG (X.blk s H scope (compEnvC scope cl C X.env) fp) tg g)
    (hk : ∀ (s : Shared) (H : Hp) (C : Addr) (cl : List (Str × Addr)) (fp : List Addr), PE (X.blk s H scope (compEnvC scope cl C X.env) fp) kx tk)
    (he : ∀ (s : Shared) (H : Hp) (C : Addr) (cl : List (Str × Addr)) (fp : List Addr), PE (X.blk s H scope (compEnvC scope cl C X.env) fp) vx tv) (hs : ∀ x, foldedSetIterable iter X.env x = pure x := by intro _; rfl) :
    PE X (.DictComp kx vx [⟨tg, iter, [], 0⟩] scope pos) (tDcN X.prog X.w wi g tk tv (own.map (·.2))) := by
  refine ⟨fun pins s σ H Q I h => ?_⟩
  rw [arm_eval_DictComp]
  have free : ∀ y ∈ scope.names, y.2 = .free → ∃ c, X.env.cells.lookup y.1 = some c := fun y hy e => (ok.free y hy e).elim (fun z => I.ok.has _ (.inl z)) fun z => I.ok.has _ (.inr z)
  refine wpAny_comprehension_free (use := none) rfl hs (closure_ok free) ok.kind (fun y hy e => by rw [ok.uniq y hy, e])
    (thn (hi.run pins s σ H _ I h) fun xv s1 h1 => thn h1 fun itv s2 h2 => ?_)
  obtain ⟨it, fp, tn, J, Ha, rfl, Ia, TT, sa, fa, qa⟩ := h2
  refine wpAny_newObj_type (newEnv_comp ?_)
  -- the new dict
  have big : (s2.heap.objs.size == sysModules) = false := beq_eq_false_iff_ne.mpr (Ne.symm (Nat.ne_of_lt Ia.big))
  obtain ⟨ob, hob⟩ := dn_of big (Heap.DictOfH.new (knd := nestedKind X.prog X.w) s2.heap)
  have fresh : Ha s2.heap.objs.size = none := Ia.hok.fresh (Nat.le_refl _)
  obtain ⟨W, ⟨m0, w0⟩, turn⟩ := qa _ ob fresh ⟨_, hob⟩
  have Ib : Inv X pins σ (upd Ha s2.heap.objs.size (DNo X.prog X.w s2.heap.objs.size ob [])) { s2 with heap := s2.heap.push { cls := .type "dict", data := .dict #[] } } :=
    Ia.laid (t' := s2.toks) (fun b o e => Heap.get?_push_of_some _ e) (Nat.le_refl _) (dn_obj hob)
  have lt : ∀ b ∈ fp, b < s2.heap.objs.size := fun b hb => let ⟨o, e, _⟩ := TT.obj _ _ sa b hb; Heap.lt_size e
  generalize hb3 : ({ s2 with heap := s2.heap.push { cls := .type "dict", data := .dict #[] } } : Shared) = s3 at Ib
  have hp3 : s3.heap = s2.heap.push { cls := .type "dict", data := .dict #[] } := by rw [← hb3]
  generalize s2.heap.objs.size = D at w0 turn Ib fresh lt hp3 hob
  have fb : ∀ b ∈ fp, FpOk X pins (upd Ha D (DNo X.prog X.w D ob [])) b ∧ b < s3.heap.objs.size := fun b hb => by
    obtain ⟨o, e, _⟩ := TT.obj _ _ sa b hb
    refine ⟨⟨?_, (fa b hb).2⟩, ?_⟩
    · rw [upd_ne (Nat.ne_of_lt (lt b hb))]
      exact (fa b hb).1
    · rw [hp3, Heap.size_push]
      exact Nat.lt_succ_of_lt (Heap.lt_size e)
  have sb : tn 0 s3.heap := TT.keep _ _ _ sa fun b _ o e => by rw [hp3]; exact Heap.get?_push_of_some _ e
  have Ic := block_start Ib ok hN fb
  have G1 := hg s3 (upd Ha D (DNo X.prog X.w D ob [])) s3.heap.objs.size (cellsFrom (s3.heap.objs.size + 1) scope.names (cloFrom X.env.cells scope.names [])) fp
  have G2 := hk s3 (upd Ha D (DNo X.prog X.w D ob [])) s3.heap.objs.size (cellsFrom (s3.heap.objs.size + 1) scope.names (cloFrom X.env.cells scope.names [])) fp
  have G3 := he s3 (upd Ha D (DNo X.prog X.w D ob [])) s3.heap.objs.size (cellsFrom (s3.heap.objs.size + 1) scope.names (cloFrom X.env.cells scope.names [])) fp
  show codeAny _ _ (.compStart (.DictComp kx vx [⟨tg, iter, [], 0⟩] scope pos) 0 (.ref it) (.ref D) (compEnvC scope (cellsFrom (s3.heap.objs.size + 1) scope.names (cloFrom X.env.cells scope.names [])) s3.heap.objs.size X.env)) (compPost (model X.prog X.w) X.A X.xe none _ (.ref D) s3.heap.objs.size) { s3 with heap := pushCells (s3.heap.push { cls := .type "dict", data := .dict #[] }) scope.names }
  generalize hce : compEnvC scope (cellsFrom (s3.heap.objs.size + 1) scope.names (cloFrom X.env.cells scope.names [])) s3.heap.objs.size X.env = ce at Ic G1 G2 G3 ⊢
  have cL : ce.locals = s3.heap.objs.size := by rw [← hce]; rfl
  have nfp : ∀ b ∈ fp, (upd Ha D (DNo X.prog X.w D ob [])) b = none := fun b hb => (fb b hb).1.1
  generalize upd Ha D (DNo X.prog X.w D ob []) = Hb at Ib Ic G1 G2 G3 w0 nfp fb
  have hu' : (X.blk s3 Hb scope ce fp).A.units + 8 < cLine := hu
  generalize hs4 : ({ s3 with heap := pushCells (s3.heap.push { cls := .type "dict", data := .dict #[] }) scope.names } : Shared) = s4 at Ic ⊢
  have s4t : tn 0 s4.heap := TT.keep _ _ _ sb fun b _ o e => by rw [← hs4]; exact pushCells_keeps _ _ _ _ (Heap.get?_push_of_some _ e)
  have fix : ∀ {σ' : L2.St} {H' : Hp} {s' : Shared}, Inv (X.blk s3 Hb scope ce fp) [] σ' H' s' → (∀ b ∈ fp, H' b = none) → ∀ b ∈ fp, FpOk (X.blk s3 Hb scope ce fp) [] H' b := fun {σ' H' s'} I' hn b hb =>
    ⟨hn b hb, (I'.ok.exf b hb).1, I'.ok.exfs b hb, .inl hb, fun x c e => (I'.ok.exf b hb).2 x c e, fun p hp => absurd (show p ∈ ([] : List (Addr × Obj)) ++ [] from hp) (by simp)⟩
  have loop : codeAny (model X.prog X.w) X.A (.compLoop (.DictComp kx vx [⟨tg, iter, [], 0⟩] scope pos) 0 (.ref it) (.ref D) ce) (compPost (model X.prog X.w) X.A X.xe none (fun v s' => EP X pins σ Q v s') (.ref D) s3.heap.objs.size) s4 := by
    refine compLoop_anyD (fun n s' => ∃ i H', Inv (X.blk s3 Hb scope ce fp) [] (wipe σ (own.map (·.2))) H' s' ∧ tn i s'.heap ∧ (∀ b ∈ fp, H' b = none) ∧ W i n H') ?_ m0 ⟨0, Hb, Ic, s4t, nfp, w0⟩
    rintro n s5 ⟨i, H5, I5, st5, n5, w5⟩
    rcases turn i n H5 w5 with ⟨stop, qq⟩ | ⟨go, Nx, hNx, step⟩
    · refine thnF (TT.done (X.blk s3 Hb scope ce fp) rfl rfl rfl hc i [] s5 _ H5 (fun _ _ => False) I5 (fix I5 n5) st5 stop) fun r s6 ⟨hr, I6⟩ => ?_
      subst hr
      have I7 : Inv X pins σ H5 s6 := Ib.call' (ch := fp) I6.os I6.base I6.hok I6.bare fun b hb => ⟨(fb b hb).1.2.2.2.1, (fb b hb).1.2.1, (fb b hb).1.2.2.2.2.1, (fb b hb).1.2.2.2.2.2⟩
      have nC : H5 s3.heap.objs.size = none := by
        have z : H5 ce.locals = none := I6.free
        rwa [cL] at z
      obtain ⟨mm, hn, _⟩ := I6.loc
      have hn : s6.heap.Ns ce.locals mm := hn
      rw [cL] at hn
      refine ⟨mm, hn, fun h'' same => ?_⟩
      obtain ⟨f0, f1, f2, f3, f4, f5⟩ := Ib.fpOk (Nat.le_refl _) nC
      exact ⟨.ref D, H5, I7.turned (t' := s6.toks) (fun b o hb e => (same.2 b hb).trans e) f0 f1 f3 f4 f5, rfl, qq⟩
    · refine thnF (TT.item (X.blk s3 Hb scope ce fp) rfl rfl rfl hc i [] s5 _ H5 (fun _ _ => False) I5 (fix I5 n5) st5 go) fun r s6 ⟨u, hr, h6⟩ => ?_
      subst hr
      refine thnF h6 fun _ s7 ⟨x, H7, I7, r7, y7, st7, n7⟩ => ?_
      have I7' := I7.pinned (fix I7 n7) (TT.obj _ _ st7)
      refine thnF (G1.run _ s7 _ H7 x u _ I7' r7 (step x H7 y7)) fun _ s8 ⟨σ8, H8, I8, hw8, q8⟩ => ?_
      rw [List.forIn_nil]
      refine wpAny_pure ?_
      rw [if_pos rfl]
      refine thnF (G2.run _ s8 σ8 H8 _ I8 q8) fun z s10 ⟨yk, H10, I10, r10, q10⟩ => ?_
      refine thnF (G3.run _ s10 σ8 H10 _ I10 q10) fun z2 s11 ⟨yv, H11, I11, r11, bk, kvs, k, d, ek, hDN, hkd, hdp, hz, hvd, nx⟩ => ?_
      subst ek
      refine dn_store (X := X.blk s3 Hb scope ce fp) hu' I11 hDN r10 hkd hdp hz r11 hvd fun o xs s12 hd12 I12 => ?_
      obtain ⟨m', hm, w'⟩ := hNx _ (nx o xs hd12)
      have keepP : ∀ b ∈ fp, ∀ o', s7.heap.get? b = some o' → s12.heap.get? b = some o' ∧ (upd H11 D (DNo X.prog X.w D o xs)) b = none := fun b hb o' e =>
        let z := I12.pin (b, o') (List.mem_append_right _ (List.mem_append_right _ (mem_pinsAt hb e)))
        ⟨z.1, z.2.1⟩
      refine ⟨m', hm, i + 1, _, (I12.unpinned (pins := [])).weak (by rw [← hw8, wipe_length]) (fun j v e => ?_), TT.keep _ _ _ st7 fun b hb o' e => (keepP b hb o' e).1, fun b hb => ?_, w'⟩
      · rw [← hw8] at e
        exact (wipe_some e).1
      · obtain ⟨o', e, _⟩ := TT.obj _ _ st7 b hb
        exact (keepP b hb o' e).2
  exact codeAny_compStart_dict loop (TT.self X.A 0 _ _ _ s4t loop)
end
end K22
set_option maxHeartbeats 1000000
/-! KZ: zip(a, b, strict=True) of two tuples of one length. -/
namespace K22
open PySem PySem.Spec L2 RZ
/-- a strict zip -/
abbrev ZipS (h : Heap) (z TI TO : Addr) (f0 : Value) : Prop :=
  h.get? z = some { cls := .type "zip", dict := none, data := .fields #[f0, .bool false, .bool true, .ref TI, .ref TO], slots := #[] }
section
variable {prog : Program} {w : World} {A : Around} {E : Value → Shared → Prop} {s : Shared}
theorem orEnd_item {it l : Addr} {i : Nat} {items : Array Value} {x : Value} {Q : Option Value → Shared → Prop} (hit : s.heap.IsTupleIter it l i) (hl : s.heap.IsTuple l items) (hx : items[i]? = some x)
    (hQ : ∀ h', h'.IsTupleIter it l (i + 1) → Heap.SameBut it s.heap h' → Q (some x) { s with heap := h' }) : wpAny (model prog w) A (Builtin.SmallTypes.nextOrEnd (.ref it)) Q E s := by
  unfold Builtin.SmallTypes.nextOrEnd
  exact wpAny_bind (wpAny_attempt (nextOf_tuple_item hit hl hx fun h' a b => wpAny_pure (hQ h' a b)))
theorem orEnd_end {it l : Addr} {i : Nat} {items : Array Value} {Q : Option Value → Shared → Prop} (hh : A.handled = none) (hit : s.heap.IsTupleIter it l i) (hl : s.heap.IsTuple l items) (hx : items[i]? = none)
    (hQ : ∀ h', Heap.ExtBut it s.heap h' → Q none { s with heap := h' }) : wpAny (model prog w) A (Builtin.SmallTypes.nextOrEnd (.ref it)) Q E s := by
  unfold Builtin.SmallTypes.nextOrEnd
  refine wpAny_bind (wpAny_attempt (nextOf_tuple_end hh hit hl hx fun h' e a ⟨o, ho, hc⟩ => ?_))
  exact wpAny_bind (wpAny_isInstance (T := "StopIteration") (b := true) ⟨o, ho, hc⟩ isSubtype_stop (wpAny_pure (hQ h' a)))
theorem zipS_item {z TI TO i1 i2 l1 l2 : Addr} {k1 k2 : Nat} {xs ys : Array Value} {x y a b : Value} {Q : Value → Shared → Prop} (D : ZipApart z TI TO i1 i2 l1 l2)
    (hz : ZipS s.heap z TI TO .none) (hTI : IsPair s.heap TI (.ref i1) (.ref i2)) (hTO : IsPair s.heap TO a b) (h1 : s.heap.IsTupleIter i1 l1 k1) (h2 : s.heap.IsTupleIter i2 l2 k2) (hl1 : s.heap.IsTuple l1 xs) (hl2 : s.heap.IsTuple l2 ys) (hx : xs[k1]? = some x) (hy : ys[k2]? = some y)
    (hQ : ∀ h', ZipS h' z TI TO (rawInt s.heap.objs.size) → IsPair h' TO x y → h'.IsTupleIter i1 l1 (k1 + 1) → h'.IsTupleIter i2 l2 (k2 + 1) → IsPair h' s.heap.objs.size x y → h'.objs.size = s.heap.objs.size + 1 →
      (∀ c o, c ≠ z → c ≠ TO → c ≠ i1 → c ≠ i2 → s.heap.get? c = some o → h'.get? c = some o) → Q (.ref s.heap.objs.size) { s with heap := h' }) :
    wpAny (model prog w) A (Builtin.«zip.__next__» ⟨[.ref z], []⟩) (fun fin s' => ∃ v, fin = .done (.ret v) ∧ Q v s') E s := by
  show wpAny _ _ (field (.ref z) 2 >>= _) _ _ _
  refine wpAny_bind (wpAny_field hz rfl (x := .bool true) rfl ?_)
  show wpAny _ _ (field (.ref z) 3 >>= _) _ _ _
  refine wpAny_bind (wpAny_field hz rfl (x := .ref TI) rfl ?_)
  refine wpAny_bind (wpAny_seqItems hTI rfl ?_)
  show wpAny _ _ (Builtin.SmallTypes.ownedTupleIsFree (.ref z) >>= _) _ _ _
  refine wpAny_bind ?_
  unfold Builtin.SmallTypes.ownedTupleIsFree
  refine wpAny_bind (wpAny_field hz rfl (x := .none) rfl (wpAny_pure ?_))
  simp only [if_true]
  refine wpAny_bind (wpAny_rule ?_)
  refine wpAny_bind (wpAny_field hz rfl (x := .ref TO) rfl ?_)
  refine wpAny_bind (wpAny_setField_rec hz (by simp) fun ha za sa => ?_)
  replace za : ZipS ha z TI TO .ellipsis := za
  refine wpAny_bind ?_
  simp only [List.zipIdx_cons, List.zipIdx_nil, List.forIn_cons, List.forIn_nil]
  -- the first
  refine wpAny_bind (wpAny_bind (wpAny_onRaise ?_))
  show wpAny _ _ (Builtin.SmallTypes.nextOrEnd (.ref i1)) _ _ _
  refine orEnd_item (h1.extBut sa.extBut D.i1z) (hl1.extBut sa.extBut D.l1z) hx fun hb h1b sb => ?_
  have tb : IsPair hb TO a b := sb.extBut _ _ D.TOi1 (sa.extBut _ _ D.TOz hTO)
  refine wpAny_bind (wpAny_seqItems tb rfl ?_)
  refine wpAny_bind (wpAny_updateSeq_pair tb fun hc tc sc => ?_)
  replace tc : IsPair hc TO x b := tc
  refine wpAny_bind (wpAny_letGo (wpAny_pure ?_))
  -- the second
  refine wpAny_bind (wpAny_bind (wpAny_onRaise ?_))
  show wpAny _ _ (Builtin.SmallTypes.nextOrEnd (.ref i2)) _ _ _
  refine orEnd_item (((h2.extBut sa.extBut D.i2z).extBut sb.extBut D.i12.symm).extBut sc.extBut D.TOi2.symm) (((hl2.extBut sa.extBut D.l2z).extBut sb.extBut D.l2i1).extBut sc.extBut D.l2TO) hy fun hd h2d sd => ?_
  have td : IsPair hd TO x b := sd.extBut _ _ D.TOi2 tc
  refine wpAny_bind (wpAny_seqItems td rfl ?_)
  refine wpAny_bind (wpAny_updateSeq_pair td fun he te se => ?_)
  replace te : IsPair he TO x y := te
  refine wpAny_bind (wpAny_letGo (wpAny_pure (wpAny_pure ?_)))
  -- the pair
  refine wpAny_bind (wpAny_seqItems te rfl ?_)
  refine wpAny_bind (wpAny_newTuple ?_)
  have size : he.objs.size = s.heap.objs.size := by rw [se.1, sd.1, sc.1, sb.1, sa.1]
  have ze : ZipS he z TI TO .ellipsis := se.extBut _ _ D.TOz.symm (sd.extBut _ _ D.i2z.symm (sc.extBut _ _ D.TOz.symm (sb.extBut _ _ D.i1z.symm za)))
  have ke : ∀ c o, c ≠ z → c ≠ TO → c ≠ i1 → c ≠ i2 → s.heap.get? c = some o → he.get? c = some o := fun c o c1 c2 c3 c4 e => se.extBut _ _ c2 (sd.extBut _ _ c4 (sc.extBut _ _ c2 (sb.extBut _ _ c3 (sa.extBut _ _ c1 e))))
  have f1 : he.IsTupleIter i1 l1 (k1 + 1) := ((h1b.extBut sc.extBut D.TOi1.symm).extBut sd.extBut D.i12).extBut se.extBut D.TOi1.symm
  have f2 : he.IsTupleIter i2 l2 (k2 + 1) := h2d.extBut se.extBut D.TOi2.symm
  have zlt : z < he.objs.size := Heap.lt_size ze
  show wpAny _ _ (Builtin.SmallTypes.ownedTupleHandOut (.ref z) (.ref he.objs.size) >>= _) _ _ _
  refine wpAny_bind ?_
  unfold Builtin.SmallTypes.ownedTupleHandOut
  have zf : ZipS (he.push { cls := .type "tuple", data := .seq #[x, y] }) z TI TO .ellipsis := Heap.get?_push_of_some _ ze
  refine wpAny_bind (wpAny_setField_rec zf (by simp) fun hg zg sg => ?_)
  replace zg : ZipS hg z TI TO (rawInt he.objs.size) := zg
  refine wpAny_setField_rec zg (by simp) fun hi zi si => ?_
  replace zi : ZipS hi z TI TO (rawInt he.objs.size) := zi
  have up : ∀ c o, c ≠ z → he.get? c = some o → hi.get? c = some o := fun c o c1 e => si.extBut _ _ c1 (sg.extBut _ _ c1 (Heap.get?_push_of_some _ e))
  have pi : IsPair hi he.objs.size x y := si.extBut _ _ (Nat.ne_of_gt zlt) (sg.extBut _ _ (Nat.ne_of_gt zlt) (Heap.get?_push_size _ rfl))
  have li : hi.objs.size = he.objs.size + 1 := by rw [si.1, sg.1, Heap.size_push]
  rw [size] at zi pi li
  refine wpAny_pure ⟨_, rfl, ?_⟩
  show Q (.ref he.objs.size) _
  rw [size]
  exact hQ hi zi (up _ _ D.TOz te) (f1.at fun o e => up _ o D.i1z e) (f2.at fun o e => up _ o D.i2z e) pi li fun c o c1 c2 c3 c4 e => up c o c1 (ke c o c1 c2 c3 c4 e)
/-- both at their end -/
theorem zipS_end {z TI TO i1 i2 l1 l2 : Addr} {k1 k2 : Nat} {xs ys : Array Value} {a b : Value} {Q : Fin → Shared → Prop} (hh : A.handled = none) (D : ZipApart z TI TO i1 i2 l1 l2)
    (hz : ZipS s.heap z TI TO .none) (hTI : IsPair s.heap TI (.ref i1) (.ref i2)) (hTO : IsPair s.heap TO a b) (h1 : s.heap.IsTupleIter i1 l1 k1) (h2 : s.heap.IsTupleIter i2 l2 k2) (hl1 : s.heap.IsTuple l1 xs) (hl2 : s.heap.IsTuple l2 ys) (hx : xs[k1]? = none) (hy : ys[k2]? = none)
    (hE : ∀ h' e, (∀ c o, c ≠ z → c ≠ TO → c ≠ i1 → c ≠ i2 → s.heap.get? c = some o → h'.get? c = some o) → (∃ o, h'.get? e = some o ∧ o.cls = .type "StopIteration") → E (.ref e) { s with heap := h' }) :
    wpAny (model prog w) A (Builtin.«zip.__next__» ⟨[.ref z], []⟩) Q E s := by
  show wpAny _ _ (field (.ref z) 2 >>= _) _ _ _
  refine wpAny_bind (wpAny_field hz rfl (x := .bool true) rfl ?_)
  show wpAny _ _ (field (.ref z) 3 >>= _) _ _ _
  refine wpAny_bind (wpAny_field hz rfl (x := .ref TI) rfl ?_)
  refine wpAny_bind (wpAny_seqItems hTI rfl ?_)
  show wpAny _ _ (Builtin.SmallTypes.ownedTupleIsFree (.ref z) >>= _) _ _ _
  refine wpAny_bind ?_
  unfold Builtin.SmallTypes.ownedTupleIsFree
  refine wpAny_bind (wpAny_field hz rfl (x := .none) rfl (wpAny_pure ?_))
  simp only [if_true]
  refine wpAny_bind (wpAny_rule ?_)
  refine wpAny_bind (wpAny_field hz rfl (x := .ref TO) rfl ?_)
  refine wpAny_bind (wpAny_setField_rec hz (by simp) fun ha za sa => ?_)
  replace za : ZipS ha z TI TO .ellipsis := za
  refine wpAny_bind ?_
  simp only [List.zipIdx_cons, List.zipIdx_nil, List.forIn_cons, List.forIn_nil]
  refine wpAny_bind (wpAny_bind (wpAny_onRaise ?_))
  show wpAny _ _ (Builtin.SmallTypes.nextOrEnd (.ref i1)) _ _ _
  refine orEnd_end hh (h1.extBut sa.extBut D.i1z) (hl1.extBut sa.extBut D.l1z) hx fun hb sb => ?_
  have zb : ZipS hb z TI TO .ellipsis := sb _ _ D.i1z.symm za
  refine wpAny_bind (wpAny_setField_rec zb (by simp) fun hc zc sc => ?_)
  refine wpAny_bind ?_
  show wpAny _ _ (forIn [(Value.ref i2, 1)] PUnit.unit _ >>= _) _ _ _
  simp only [List.forIn_cons, List.forIn_nil]
  have zc' : ZipS hc z TI TO .none := zc
  have k1c : ∀ c o, c ≠ z → c ≠ i1 → s.heap.get? c = some o → hc.get? c = some o := fun c o c1 c3 e => sc.extBut _ _ c1 (sb _ _ c3 (sa.extBut _ _ c1 e))
  refine wpAny_bind (wpAny_bind (wpAny_bind (orEnd_end hh (h2.at fun o e => k1c _ o D.i2z D.i12.symm e) (let ⟨o, e, r⟩ := hl2; ⟨o, k1c _ o D.l2z D.l2i1 e, r⟩) hy fun hd sd => ?_)))
  rw [if_neg (by simp)]
  refine wpAny_pure (wpAny_pure ?_)
  refine wpAny_bind (wpAny_rule ?_)
  show wpAny _ _ (newExc (.type "StopIteration") [] >>= _) _ _ _
  refine wpAny_bind ?_
  simp only [newExc, newTuple]
  refine wpAny_bind (wpAny_newObj_type ?_ (by size_fits))
  refine wpAny_bind (m := firstArgMember _ _) (wpAny_of_eq (a := Value.none) (by first | rfl | (simp only [firstArgMember]; rfl)) ?_)
  refine wpAny_newObj_type ?_ (by size_fits)
  simp only [raiseNew]
  refine wpAny_bind (wpAny_handled ?_)
  rw [hh]
  refine wpAny_bind (wpAny_pure (wpAny_throw ?_))
  exact hE _ _ (fun c o c1 c2 c3 c4 e => Heap.get?_push_of_some _ (Heap.get?_push_of_some _ (sd _ _ c4 (k1c c o c1 c3 e)))) ⟨_, Heap.get?_push_size _ rfl, rfl⟩
theorem zipS_next {z TI TO i1 i2 l1 l2 : Addr} {k1 k2 : Nat} {xs ys : Array Value} {x y a b : Value} {Q : Option Value → Shared → Prop} (D : ZipApart z TI TO i1 i2 l1 l2)
    (hz : ZipS s.heap z TI TO .none) (hTI : IsPair s.heap TI (.ref i1) (.ref i2)) (hTO : IsPair s.heap TO a b) (h1 : s.heap.IsTupleIter i1 l1 k1) (h2 : s.heap.IsTupleIter i2 l2 k2) (hl1 : s.heap.IsTuple l1 xs) (hl2 : s.heap.IsTuple l2 ys) (hx : xs[k1]? = some x) (hy : ys[k2]? = some y)
    (hQ : ∀ h', ZipS h' z TI TO (rawInt s.heap.objs.size) → IsPair h' TO x y → h'.IsTupleIter i1 l1 (k1 + 1) → h'.IsTupleIter i2 l2 (k2 + 1) → IsPair h' s.heap.objs.size x y → h'.objs.size = s.heap.objs.size + 1 →
      (∀ c o, c ≠ z → c ≠ TO → c ≠ i1 → c ≠ i2 → s.heap.get? c = some o → h'.get? c = some o) → Q (some (.ref s.heap.objs.size)) { s with heap := h' }) :
    wpAny (model prog w) A (pyNext (.ref z)) Q E s := by
  have hT : s.TypeIs (.ref z) "zip" := ⟨_, hz, rfl⟩
  unfold pyNext
  refine wpAny_bind (wpAny_attempt (wpAny_callSpecial?_slot (name := Str.ofString "__next__") hT F.slot_zip_next (wpAny_call_entry F.slot_zip_next hT F.entry_zip_next ?_ (F.args_zip_next_1 _))))
  exact zipS_item D hz hTI hTO h1 h2 hl1 hl2 hx hy fun h' a1 a2 a3 a4 a5 a6 a7 => wpAny_pure (hQ h' a1 a2 a3 a4 a5 a6 a7)
theorem zipS_stop {z TI TO i1 i2 l1 l2 : Addr} {k1 k2 : Nat} {xs ys : Array Value} {a b : Value} {Q : Option Value → Shared → Prop} (hh : A.handled = none) (D : ZipApart z TI TO i1 i2 l1 l2)
    (hz : ZipS s.heap z TI TO .none) (hTI : IsPair s.heap TI (.ref i1) (.ref i2)) (hTO : IsPair s.heap TO a b) (h1 : s.heap.IsTupleIter i1 l1 k1) (h2 : s.heap.IsTupleIter i2 l2 k2) (hl1 : s.heap.IsTuple l1 xs) (hl2 : s.heap.IsTuple l2 ys) (hx : xs[k1]? = none) (hy : ys[k2]? = none)
    (hQ : ∀ h', (∀ c o, c ≠ z → c ≠ TO → c ≠ i1 → c ≠ i2 → s.heap.get? c = some o → h'.get? c = some o) → Q none { s with heap := h' }) : wpAny (model prog w) A (pyNext (.ref z)) Q E s := by
  have hT : s.TypeIs (.ref z) "zip" := ⟨_, hz, rfl⟩
  unfold pyNext
  refine wpAny_bind (wpAny_attempt (wpAny_callSpecial?_slot (name := Str.ofString "__next__") hT F.slot_zip_next (wpAny_call_entry F.slot_zip_next hT F.entry_zip_next ?_ (F.args_zip_next_1 _))))
  refine zipS_end hh D hz hTI hTO h1 h2 hl1 hl2 hx hy fun h' e hk ⟨o, ho, hc⟩ => ?_
  exact wpAny_bind (wpAny_isInstance (T := "StopIteration") (b := true) ⟨o, ho, hc⟩ isSubtype_stop (wpAny_pure (hQ _ hk)))
theorem zipS_go {elts : List Expr} {kk : Nat} {pos : Pos} {z TI TO T : Addr} {Q : Unit → Shared → Prop} (hz : ZipS s.heap z TI TO (rawInt T)) (hQ : ∀ h', ZipS h' z TI TO .none → Heap.SameBut z s.heap h' → Q () { s with heap := h' }) :
    wpAny (model prog w) A (letOwnedTupleGo (.Tuple elts kk pos) (.ref z) (.ref T)) Q E s := by
  unfold letOwnedTupleGo
  refine wpAny_bind (wpAny_load hz ?_)
  show wpAny _ _ (if (["enumerate", "zip", "dict_itemiterator", "dict_reverseitemiterator", "odict_iterator", "itertools.zip_longest", "itertools.pairwise"].contains "zip" && (#[rawInt T, .bool false, .bool true, .ref TI, .ref TO] : Array Value)[0]? == some (rawInt T)) = true then _ else _) Q E s
  rw [if_pos (by simp)]
  refine wpAny_bind (wpAny_rule ?_)
  show wpAny _ _ (setField (.ref z) 0 .none) Q E s
  exact wpAny_setField_rec hz (by simp) fun h' a b => hQ h' a b
theorem zipS_iter {z TI TO : Addr} {f0 : Value} {Q : Value → Shared → Prop} (hz : ZipS s.heap z TI TO f0) (h : Q (.ref z) s) : wpAny (model prog w) A (pyIter (.ref z)) Q E s := by
  have hT : s.TypeIs (.ref z) "zip" := ⟨_, hz, rfl⟩
  refine wpAny_pyIter_slot hT F.slot_zip_iter (wpAny_call_entry F.slot_zip_iter hT F.entry_zip_iter ?_ (F.args_zip_iter_1 _))
  show wpAny _ _ (ret (.ref z)) _ _ s
  exact wpAny_pure ⟨_, rfl, "zip", _, hT, F.slot_zip_next.lookup, h⟩
end
/-! ### zip(a, b, strict=True) made -/
abbrev kwS : List (Str × Value) := [(Str.ofString "strict", .bool true)]
theorem typeCall_zipS (a b : Value) : checkTypeCall "zip" ⟨[a, b], kwS⟩ = pure () := by kernel_rfl
theorem newCall_zipS (a b : Value) : checkBuiltinCall "zip.__new__" ⟨[.type "zip", a, b], kwS⟩ = pure () := by kernel_rfl
theorem args_obj_zipS (obj a b : Value) : argsOk "object.__init__" ⟨[obj, a, b], kwS⟩ := by unfold argsOk; kernel_rfl
abbrev zs1 (h : Heap) (l1 : Addr) : Heap := h.push { cls := .type "tuple_iterator", data := .fields #[.ref l1, .int 0 0] }
abbrev zs2 (h : Heap) (l1 l2 : Addr) : Heap := (zs1 h l1).push { cls := .type "tuple_iterator", data := .fields #[.ref l2, .int 0 0] }
abbrev zs3 (h : Heap) (l1 l2 : Addr) : Heap := (zs2 h l1 l2).push { cls := .type "tuple", data := .seq #[.ref h.objs.size, .ref (zs1 h l1).objs.size] }
abbrev zs4 (h : Heap) (l1 l2 : Addr) : Heap := (zs3 h l1 l2).push { cls := .type "tuple", data := .seq #[.none, .none] }
abbrev zs5 (h : Heap) (l1 l2 : Addr) : Heap := (zs4 h l1 l2).push { cls := .type "zip", data := .fields #[.none, .bool false, .bool true, .ref (zs2 h l1 l2).objs.size, .ref (zs3 h l1 l2).objs.size] }
theorem meets_zipS (l1 l2 : Addr) (xs ys : Array Value) : Meets (Builtin.«zip.__new__» ⟨[.type "zip", .ref l1, .ref l2], kwS⟩) (fun _ R s => s.heap.IsTuple l1 xs ∧ s.heap.IsTuple l2 ys ∧ R (.ok (.ret (.ref (zs4 s.heap l1 l2).objs.size))) { s with heap := zs5 s.heap l1 l2 }) :=
  .of_wp fun prog w A R s h => by
    obtain ⟨hp, g, d, tk, os⟩ := s
    obtain ⟨hl1, hl2, h⟩ := h
    have hsub := sub_zip
    have L1 : Heap.IsTuple (Shared.heap ⟨hp, g, d, tk, os⟩) l1 xs := hl1
    have L2 : Heap.IsTuple (Shared.heap ⟨hp.push { cls := .type "tuple_iterator", data := .fields #[.ref l1, .int 0 0] }, g, d, tk, os⟩) l2 ys := Heap.IsTuple.push hl2 _
    have e1 : (Str.ofString "strict" != ("strict" : Str)) = false := by decide +kernel
    wp_walk using wpAny_pyIter_tuple L1, wpAny_pyIter_tuple L2
    exact ⟨_, rfl, h⟩
section
variable {prog : Program} {w : World} {A : Around} {E : Value → Shared → Prop} {s : Shared}
theorem call_zipS {l1 l2 : Addr} {xs ys : Array Value} {Q : Value → Shared → Prop} (hl1 : s.heap.IsTuple l1 xs) (hl2 : s.heap.IsTuple l2 ys)
    (h : ∀ h', ZipS h' (s.heap.objs.size + 4) (s.heap.objs.size + 2) (s.heap.objs.size + 3) .none → IsPair h' (s.heap.objs.size + 2) (.ref s.heap.objs.size) (.ref (s.heap.objs.size + 1)) → IsPair h' (s.heap.objs.size + 3) .none .none → h'.IsTupleIter s.heap.objs.size l1 0 → h'.IsTupleIter (s.heap.objs.size + 1) l2 0 →
      (∀ c o, s.heap.get? c = some o → h'.get? c = some o) → Q (.ref (s.heap.objs.size + 4)) { s with heap := h' }) :
    wpAny (model prog w) A (call (.type "zip") [.ref l1, .ref l2] kwS) Q E s := by
  refine callType_newKw F.called_zip (by decide) (typeCall_zipS _ _) (newCall_zipS _ _) (fun obj => args_obj_zipS obj _ _) F.entry_zip_new (meets_zipS l1 l2 xs ys) ⟨hl1, hl2, ?_⟩
  have z1 : (zs1 s.heap l1).objs.size = s.heap.objs.size + 1 := Heap.size_push ..
  have z2 : (zs2 s.heap l1 l2).objs.size = s.heap.objs.size + 2 := by rw [Heap.size_push, z1]
  have z3 : (zs3 s.heap l1 l2).objs.size = s.heap.objs.size + 3 := by rw [Heap.size_push, z2]
  have z4 : (zs4 s.heap l1 l2).objs.size = s.heap.objs.size + 4 := by rw [Heap.size_push, z3]
  have g5 : (zs5 s.heap l1 l2).get? (zs4 s.heap l1 l2).objs.size = some _ := Heap.get?_push_size _ rfl
  have g4 : (zs5 s.heap l1 l2).get? (zs3 s.heap l1 l2).objs.size = some _ := Heap.get?_push_of_some _ (Heap.get?_push_size _ rfl)
  have g3 : (zs5 s.heap l1 l2).get? (zs2 s.heap l1 l2).objs.size = some _ := Heap.get?_push_of_some _ (Heap.get?_push_of_some _ (Heap.get?_push_size _ rfl))
  have g2 : (zs5 s.heap l1 l2).get? (zs1 s.heap l1).objs.size = some _ := Heap.get?_push_of_some _ (Heap.get?_push_of_some _ (Heap.get?_push_of_some _ (Heap.get?_push_size _ rfl)))
  have g1 : (zs5 s.heap l1 l2).get? s.heap.objs.size = some _ := Heap.get?_push_of_some _ (Heap.get?_push_of_some _ (Heap.get?_push_of_some _ (Heap.get?_push_of_some _ (Heap.get?_push_size _ rfl))))
  show _ ∧ _
  rw [z2, z3, z4] at g5
  rw [z1, z2] at g3
  rw [z3] at g4
  rw [z1] at g2
  rw [z4]
  exact ⟨⟨_, g5, rfl⟩, h _ g5 g3 g4 ⟨_, g1, rfl, rfl⟩ ⟨_, g2, rfl, rfl⟩ fun c o x => Heap.get?_push_of_some _ (Heap.get?_push_of_some _ (Heap.get?_push_of_some _ (Heap.get?_push_of_some _ (Heap.get?_push_of_some _ x))))⟩
end
/-! ### walked -/
def ItZS (K : PySem.W.Frag) (a b : Addr) : It :=
  ⟨fun i H => ∃ (xs ys : List V) (x y : V), SqT K H a xs ∧ SqT K H b ys ∧ xs[i]? = some x ∧ ys[i]? = some y,
    fun i H v H' => ∃ T x y, v = .ref T ∧ H T = none ∧ H' = upd H T (.tup [x, y]) ∧ (∀ xs, SqT K H a xs → xs[i]? = some x) ∧ ∀ ys, SqT K H b ys → ys[i]? = some y,
    fun i H => ∃ xs ys : List V, SqT K H a xs ∧ SqT K H b ys ∧ xs.length ≤ i ∧ ys.length ≤ i⟩
theorem turn_zipS {P : Program} {w : World} {K : PySem.W.Frag} {elts : List Expr} {kk : Nat} {tpos : Pos} {a b z TI TO i1 i2 : Addr} (D : ZipApart z TI TO i1 i2 a b) :
    Turn P w K (.Tuple elts kk tpos) (ItZS K a b) [z, TI, TO, i1, i2] z (fun i h => ZipS h z TI TO .none ∧ IsPair h TI (.ref i1) (.ref i2) ∧ (∃ x y, IsPair h TO x y) ∧ h.IsTupleIter i1 a i ∧ h.IsTupleIter i2 b i) := by
  have five : ∀ {c : Addr}, c ∈ [z, TI, TO, i1, i2] → c = z ∨ c = TI ∨ c = TO ∨ c = i1 ∨ c = i2 := fun {c} hc => by simpa using hc
  constructor
  case mem => simp
  case obj =>
    intro i h st c hc
    obtain ⟨hz, hTI, ⟨x, y, hTO⟩, ⟨o1, e1, _, d1⟩, ⟨o2, e2, _, d2⟩⟩ := st
    rcases five hc with rfl | rfl | rfl | rfl | rfl
    · exact ⟨_, hz, fun v q => nomatch q⟩
    · exact ⟨_, hTI, fun v q => nomatch q⟩
    · exact ⟨_, hTO, fun v q => nomatch q⟩
    · exact ⟨o1, e1, fun v q => by rw [d1] at q; cases q⟩
    · exact ⟨o2, e2, fun v q => by rw [d2] at q; cases q⟩
  case keep =>
    intro i h h' st k
    obtain ⟨hz, hTI, ⟨x, y, hTO⟩, h1, h2⟩ := st
    exact ⟨k z (by simp) _ hz, k TI (by simp) _ hTI, ⟨x, y, k TO (by simp) _ hTO⟩, h1.at fun o q => k i1 (by simp) o q, h2.at fun o q => k i2 (by simp) o q⟩
  case item =>
    intro X hP hw hK hc i pins s σ H E I hf st hg
    subst hP
    subst hw
    subst hK
    obtain ⟨hz, hTI, ⟨x0, y0, hTO⟩, h1, h2⟩ := st
    obtain ⟨xs, ys, x, y, hqx, hqy, hx, hy⟩ := hg
    obtain ⟨its, rv, p, _⟩ := I.tuple hqx
    obtain ⟨its2, rv2, p2, _⟩ := I.tuple hqy
    obtain ⟨u, hu, ru⟩ := rv.get hx
    obtain ⟨u2, hu2, ru2⟩ := rv2.get hy
    have zlt : z < s.heap.objs.size := Heap.lt_size hz
    refine zipS_next D hz hTI hTO h1 h2 p p2 (x := u) (y := u2) (by simpa using hu) (by simpa using hu2) fun ha za ta f1 f2 pa _ ka => ?_
    refine ⟨_, rfl, zipS_go (s := { s with heap := ha }) za fun hb zb sb => ?_⟩
    have pb : hb.get? s.heap.objs.size = some { cls := .type "tuple", data := .seq #[u, u2] } := (sb.2 _ (Nat.ne_of_gt zlt)).trans pa
    have new : ObjOk X.prog X.w (upd H s.heap.objs.size (.tup [x, y])) hb s.heap.objs.size (.tup [x, y]) := ⟨by show 2 ≤ sizeLine; decide, [u, u2], .cons ru (.cons ru2 .nil), ⟨_, pb, rfl, _, rfl⟩⟩
    have I1 : Inv X pins σ (upd H s.heap.objs.size (.tup [x, y])) { s with heap := hb } :=
      I.turnedNew (t' := s.toks) (ch := [z, TI, TO, i1, i2]) (fun c o nc q => (sb.2 c (fun e => nc (by simp [e]))).trans (ka c o (fun e => nc (by simp [e])) (fun e => nc (by simp [e])) (fun e => nc (by simp [e])) (fun e => nc (by simp [e])) q)) hf (Nat.le_refl _) new
    refine ⟨.ref s.heap.objs.size, _, I1, rfl, ⟨_, x, y, rfl, I.hok.fresh (Nat.le_refl _), rfl, fun l hl => by rw [I.tuple_inj hl hqx]; exact hx, fun l hl => by rw [I.tuple_inj hl hqy]; exact hy⟩, ⟨zb, (sb.2 _ D.TIz).trans (ka _ _ D.TIz D.TITO D.TIi1 D.TIi2 hTI), ⟨u, u2, (sb.2 _ D.TOz).trans ta⟩, f1.at fun o q => (sb.2 _ D.i1z).trans q, f2.at fun o q => (sb.2 _ D.i2z).trans q⟩, fun c hc5 => ?_⟩
    have clt : c < s.heap.objs.size := by
      rcases five hc5 with rfl | rfl | rfl | rfl | rfl
      · exact zlt
      · exact Heap.lt_size hTI
      · exact Heap.lt_size hTO
      · obtain ⟨_, e1, _⟩ := h1; exact Heap.lt_size e1
      · obtain ⟨_, e2, _⟩ := h2; exact Heap.lt_size e2
    rw [upd_ne (Nat.ne_of_lt clt)]
    exact (hf c hc5).1
  case done =>
    intro X hP hw hK hc i pins s σ H E I hf st hg
    subst hP
    subst hw
    subst hK
    obtain ⟨hz, hTI, ⟨x0, y0, hTO⟩, h1, h2⟩ := st
    obtain ⟨xs, ys, hqx, hqy, e1, e2⟩ := hg
    obtain ⟨its, rv, p, _⟩ := I.tuple hqx
    obtain ⟨its2, rv2, p2, _⟩ := I.tuple hqy
    have l1 := rv.length
    have l2 := rv2.length
    refine zipS_stop (I.ok.hd hc) D hz hTI hTO h1 h2 p p2 (by simp; omega) (by simp; omega) fun h' hk => ⟨rfl, ?_⟩
    exact I.turnedL (t' := s.toks) (ch := [z, TI, TO, i1, i2]) (fun c o nc q => hk c o (fun e => nc (by simp [e])) (fun e => nc (by simp [e])) (fun e => nc (by simp [e])) (fun e => nc (by simp [e])) q) hf
  case self => exact fun A i s Q E st h => zipS_iter st.1 h
/-- zip(e, e2, strict=True) -/
def iZipS (K : PySem.W.Frag) (ta : TA) : TI := fun σ H R => ta σ H fun vs H1 => ∃ a b xs ys, vs = [.ref a, .ref b] ∧ SqT K H1 a xs ∧ SqT K H1 b ys ∧ R (ItZS K a b) H1
theorem pi_zipS {X : Cx} {e e2 : Expr} {ta : TA} {p pos tpos kp q1 : Pos} {elts : List Expr} {kk j : Nat} (hg : Gl X "zip") (hm : X.mg "zip" = none) (ha : PA X [e, e2] ta)
    (he : backTo pos (starEach [e, e2] X.env) = (false, eval e X.env) :: backTo pos (starEach [e2] X.env) := by rfl) (hpl : (backTo pos (starEach [e, e2] X.env)).any (·.1) = false := by rfl) :
    PI X (.Tuple elts kk tpos) (.Call (.Name "zip" p) [e, e2] [⟨some (Str.ofString "strict"), .Constant (.bool true) j q1, kp⟩] pos) (iZipS X.K ta) := by
  refine ⟨fun pins s σ H R I h => ?_⟩
  refine wpAny_Call_Name_kw (ld_blt I hg hm PyProof.Rows.boot_zip ?_)
  unfold callWith
  refine wpAny_bind (wpAny_holding ?_)
  rw [he]
  refine PyProof.Rows.evalArgs_kwB rfl ?_
  rw [← he]
  refine thn (ha.run pos pins s σ H _ I h) fun us s1 ⟨vs, H1, I1, r1, a, b, xs, ys, ex, hqx, hqy, q⟩ => ?_
  subst ex
  refine PyProof.Rows.kws_cons (wpAny_Constant_bool (PyProof.Rows.kws_nil (wpAny_bind (wpAny_standAt ?_))))
  simp only [← he, hpl]
  refine wpAny_bind (wpAny_pure ?_)
  cases r1 with
  | cons r rr =>
    cases rr with
    | cons r' rr =>
      cases rr
      cases r
      cases r'
      obtain ⟨its, rv, p1, _⟩ := I1.tuple hqx
      obtain ⟨its2, rv2, p2, _⟩ := I1.tuple hqy
      obtain ⟨o1, ho1, _⟩ := id p1
      obtain ⟨o2, ho2, _⟩ := id p2
      refine wpAny_bind (call_zipS (show s1.heap.IsTuple a its.toArray from p1) (show s1.heap.IsTuple b its2.toArray from p2) fun h' hz hTI hTO f1 f2 hk => wpAny_bind (wpAny_holding (wpAny_point (wpAny_pure ?_))))
      refine zipS_iter hz ?_
      have I2 : Inv X pins σ H1 { s1 with heap := h' } := I1.kept (t' := s1.toks) hk
      refine ⟨s1.heap.objs.size + 4, [s1.heap.objs.size + 4, s1.heap.objs.size + 2, s1.heap.objs.size + 3, s1.heap.objs.size, s1.heap.objs.size + 1], _, _, H1, rfl, I2, turn_zipS (PySem.W.ktu_apart s1.heap.objs.size a b (Heap.lt_size ho1) (Heap.lt_size ho2)), ⟨hz, hTI, ⟨_, _, hTO⟩, f1, f2⟩, fun c hc5 => ?_, q⟩
      have five : c = s1.heap.objs.size + 4 ∨ c = s1.heap.objs.size + 2 ∨ c = s1.heap.objs.size + 3 ∨ c = s1.heap.objs.size ∨ c = s1.heap.objs.size + 1 := by simpa using hc5
      have hle : s1.heap.objs.size ≤ c := by
        rcases five with rfl | rfl | rfl | rfl | rfl
        · exact Nat.le_add_right _ _
        · exact Nat.le_add_right _ _
        · exact Nat.le_add_right _ _
        · exact Nat.le_refl _
        · exact Nat.le_add_right _ _
      exact I1.fpOk hle (I1.hok.fresh hle)
end K22
set_option maxHeartbeats 1000000
/-! KU: enumerate of a tuple. -/
namespace K22
open PySem PySem.Spec L2 PyProof.Rows
theorem meets_enumT (l : Addr) (items : Array Value) : Meets (Builtin.«enumerate.__new__» ⟨[.type "enumerate", .ref l], []⟩) (fun _ R s => s.heap.IsTuple l items ∧
      R (.ok (.ret (.ref (s.heap.push { cls := .type "tuple_iterator", data := .fields #[.ref l, .int 0 0] }).objs.size)))
        { s with heap := (s.heap.push { cls := .type "tuple_iterator", data := .fields #[.ref l, .int 0 0] }).push { cls := .type "enumerate", data := .fields #[.none, .bool false, .ref s.heap.objs.size, rawInt 0, .none, .none] } }) :=
  .of_wp fun prog w A R s h => by
    obtain ⟨hp, g, d, tk, os⟩ := s
    obtain ⟨hl, h⟩ := h
    have hsub := sub_enumerate
    have L1 : Heap.IsTuple (Shared.heap ⟨hp, g, d, tk, os⟩) l items := hl
    wp_walk
    refine wpAny_stack_any fun st => wpAny_pure ?_
    split
    · rename_i c _ _ _ _ _
      cases (c == Value.type "enumerate")
      · wp_walk using wpAny_pyIter_tuple L1
        exact ⟨_, rfl, h⟩
      · wp_walk using wpAny_pyIter_tuple L1
        exact ⟨_, rfl, h⟩
    · wp_walk using wpAny_pyIter_tuple L1
      exact ⟨_, rfl, h⟩
theorem call_enumT {prog : Program} {w : World} {A : Around} {E : Value → Shared → Prop} {s : Shared} {l : Addr} {items : Array Value} {Q : Value → Shared → Prop} (hL : s.heap.IsTuple l items)
    (h : ∀ h', IsEnum h' (s.heap.objs.size + 1) s.heap.objs.size 0 .none → h'.IsTupleIter s.heap.objs.size l 0 → (∀ b o, s.heap.get? b = some o → h'.get? b = some o) → Q (.ref (s.heap.objs.size + 1)) { s with heap := h' }) :
    wpAny (model prog w) A (call (.type "enumerate") [.ref l]) Q E s := by
  refine callType_new F.called_enumerate (by decide) (F.typeCall_enumerate_1 _) (F.newCall_enumerate_1 _) (fun obj => F.args_object_init_2 obj _) F.entry_enumerate_new (meets_enumT l items) ⟨hL, ?_⟩
  have hz : (s.heap.push { cls := .type "tuple_iterator", data := .fields #[.ref l, .int 0 0] }).objs.size = s.heap.objs.size + 1 := Heap.size_push ..
  show _ ∧ _
  rw [hz]
  have he : IsEnum ((s.heap.push { cls := .type "tuple_iterator", data := .fields #[.ref l, .int 0 0] }).push { cls := .type "enumerate", data := .fields #[.none, .bool false, .ref s.heap.objs.size, rawInt 0, .none, .none] }) (s.heap.objs.size + 1) s.heap.objs.size 0 .none := by
    have q := Heap.get?_push_size (s.heap.push { cls := .type "tuple_iterator", data := .fields #[.ref l, .int 0 0] }) (o := { cls := .type "enumerate", data := .fields #[.none, .bool false, .ref s.heap.objs.size, rawInt 0, .none, .none] }) rfl
    rw [hz] at q
    exact q
  exact ⟨⟨_, he, rfl⟩, h _ he ⟨_, Heap.get?_push_of_some _ (Heap.get?_push_size _ rfl), rfl, rfl⟩ fun b o y => Heap.get?_push_of_some _ (Heap.get?_push_of_some _ y)⟩
/-- the tuple at a, each item in a new pair -/
def ItET (K : PySem.W.Frag) (a : Addr) : It :=
  ⟨fun i H => ∃ (xs : List V) (x : V), SqT K H a xs ∧ xs[i]? = some x, fun i H v H' => ∃ T x, v = .ref T ∧ H T = none ∧ H' = upd H T (.tup [.int (i : Nat), x]) ∧ ∀ xs, SqT K H a xs → xs[i]? = some x, fun i H => ∃ xs : List V, SqT K H a xs ∧ xs.length ≤ i⟩
theorem turn_enumT {P : Program} {w : World} {K : PySem.W.Frag} {elts : List Expr} {kk : Nat} {tpos : Pos} {a e it : Addr} {items : Array Value} (hai : a ≠ it) (hae : a ≠ e) :
    Turn P w K (.Tuple elts kk tpos) (ItET K a) [e, it] e (fun i h => (∃ old, IsEnum h e it ((i : Nat) : Int) old) ∧ h.IsTupleIter it a i ∧ e ≠ it) := by
  have two : ∀ {b : Addr}, b ∈ [e, it] → b = e ∨ b = it := fun {b} hb => by simpa using hb
  constructor
  case mem => simp
  case obj =>
    intro i h st b hb
    obtain ⟨⟨old, he⟩, ⟨o, ho, hc, hd⟩, _⟩ := st
    rcases two hb with rfl | rfl
    · exact ⟨_, he, fun v q => nomatch q⟩
    · exact ⟨o, ho, fun v q => by rw [hd] at q; cases q⟩
  case keep =>
    intro i h h' st k
    obtain ⟨⟨old, he⟩, hi, hne⟩ := st
    exact ⟨⟨old, k e (by simp) _ he⟩, hi.at fun o q => k it (by simp) o q, hne⟩
  case item =>
    intro X hP hw hK hc i pins s σ H E I hf st hg
    subst hP
    subst hw
    subst hK
    obtain ⟨⟨old, he⟩, hit, hne⟩ := st
    obtain ⟨xs, x, hq, hx⟩ := hg
    obtain ⟨its, rv, p, hz⟩ := I.tuple hq
    obtain ⟨u, hu, ru⟩ := rv.get hx
    have hel : e < s.heap.objs.size := Heap.lt_size he
    have hil : it < s.heap.objs.size := by obtain ⟨_, q, _⟩ := hit; exact Heap.lt_size q
    have hu' : its.toArray[i]? = some u := by simpa using hu
    have D : Draws X.prog X.w X.A.in1 it [it, a] its.toArray.size (fun i v => its.toArray[i]? = some v) (fun i h => h.IsTupleIter it a i ∧ h.IsTuple a its.toArray) := .tuple (by simpa using I.ok.hd hc) it a hai its.toArray
    have hlt : i < its.toArray.size := (Array.getElem?_eq_some_iff.mp hu').1
    refine wpAny_pyNext_enum_itemD D he ⟨hit, p⟩ hlt hne (by simp [hne, Ne.symm hae]) fun y ha tk hy za sa pa _ ka => ?_
    have ey : y = u := Option.some.inj (hy.symm.trans hu')
    subst ey
    refine ⟨_, rfl, wpAny_letOwnedTupleGo_enum (s := { s with heap := ha, toks := tk + 1 }) za fun hb zb sb => ?_⟩
    have pb : hb.get? s.heap.objs.size = some { cls := .type "tuple", data := .seq #[.int i tk, y] } := (sb.2 _ (Nat.ne_of_gt hel)).trans pa
    have new : ObjOk X.prog X.w (upd H s.heap.objs.size (.tup [.int (i : Nat), x])) hb s.heap.objs.size (.tup [.int (i : Nat), x]) := ⟨by show 2 ≤ sizeLine; decide, [.int i tk, y], .cons ⟨_, rfl⟩ (.cons ru .nil), ⟨_, pb, rfl, _, rfl⟩⟩
    have I1 : Inv X pins σ (upd H s.heap.objs.size (.tup [.int (i : Nat), x])) { s with heap := hb, toks := tk + 1 } :=
      I.turnedNew (ch := [e, it]) (fun b ob nb q => (sb.2 b (fun z => nb (by simp [z]))).trans (ka b ob (fun z => nb (by simp [z])) (fun z => nb (by simp [z])) q)) hf (Nat.le_refl _) new
    refine ⟨.ref s.heap.objs.size, _, I1, rfl, ⟨_, x, rfl, I.hok.fresh (Nat.le_refl _), rfl, fun ys hy => by rw [I.tuple_inj hy hq]; exact hx⟩, ⟨⟨y, ?_⟩, sa.1.at fun o q => (sb.2 it (Ne.symm hne)).trans q, hne⟩, fun b hb2 => ?_⟩
    · have e1 : ((i + 1 : Nat) : Int) = (i : Int) + 1 := by omega
      rw [e1]
      exact zb
    · have hlb : b < s.heap.objs.size := by
        rcases two hb2 with rfl | rfl
        · exact hel
        · exact hil
      rw [upd_ne (Nat.ne_of_lt hlb)]
      exact (hf b hb2).1
  case done =>
    intro X hP hw hK hc i pins s σ H E I hf st hg
    subst hP
    subst hw
    subst hK
    obtain ⟨⟨old, he⟩, hit, hne⟩ := st
    obtain ⟨xs, hq, hx⟩ := hg
    obtain ⟨its, rv, p, hz⟩ := I.tuple hq
    obtain ⟨f0, f1, f2, f3, f4, f5⟩ := hf it (by simp)
    have hl := rv.length
    have hT : s.TypeIs (.ref e) "enumerate" := ⟨_, he, rfl⟩
    unfold pyNext
    refine wpAny_bind (wpAny_attempt (wpAny_callSpecial?_slot (name := Str.ofString "__next__") hT F.slot_enumerate_next (wpAny_call_entry F.slot_enumerate_next hT F.entry_enumerate_next ?_ (F.args_enumerate_next_1 _))))
    show wpAny _ _ (field (.ref e) 2 >>= _) _ _ _
    refine wpAny_bind (wpAny_field he rfl (x := .ref it) rfl ?_)
    refine wpAny_bind (wpAny_nextOf_tuple_end (by simpa using I.ok.hd hc) hit p (by simp; omega) fun h' x he' hx' => ?_)
    obtain ⟨o, ho, hcl⟩ := hx'
    refine wpAny_bind (wpAny_isInstance (T := "StopIteration") (b := true) ⟨o, ho, hcl⟩ isSubtype_stop ?_)
    exact wpAny_pure ⟨rfl, I.turned (t' := s.toks) (fun b o hb q => he' b o hb q) f0 f1 f3 f4 f5⟩
  case self => exact fun A i s Q E st h => let ⟨⟨_, he⟩, _⟩ := st; wpAny_pyIter_enum he h
def iEnumT (K : PySem.W.Frag) (ta : TA) : TI := fun σ H R => ta σ H fun vs H1 => ∃ a xs, vs = [.ref a] ∧ SqT K H1 a xs ∧ R (ItET K a) H1
theorem pi_enumT {X : Cx} {e : Expr} {ta : TA} {p pos tpos : Pos} {elts : List Expr} {kk : Nat} (hg : Gl X "enumerate") (hm : X.mg "enumerate" = none) (ha : PA X [e] ta) (hs : starEach [e] X.env = [(false, eval e X.env)] := by rfl) :
    PI X (.Tuple elts kk tpos) (.Call (.Name "enumerate" p) [e] [] pos) (iEnumT X.K ta) := by
  refine ⟨fun pins s σ H R I h => ?_⟩
  refine Call_ (ld_blt I hg hm PyProof.Rows.boot_enumerate (PyProof.Rows.callWith_type1 (thn (ha.run pos pins s σ H _ I h) fun us s1 ⟨vs, H1, I1, r1, a, xs, ex, hq, q⟩ => ?_) hs rfl))
  subst ex
  cases r1 with
  | cons r rr =>
    cases rr
    cases r
    obtain ⟨its, rv, p', hz⟩ := I1.tuple hq
    obtain ⟨o1, ho1, _⟩ := id p'
    have la : a < s1.heap.objs.size := Heap.lt_size ho1
    refine call_enumT p' fun h' he hit hk => wpAny_pyIter_enum he ?_
    have I2 : Inv X pins σ H1 { s1 with heap := h' } := I1.kept (t' := s1.toks) hk
    refine ⟨s1.heap.objs.size + 1, [s1.heap.objs.size + 1, s1.heap.objs.size], _, _, H1, rfl, I2, turn_enumT (items := its.toArray) (Nat.ne_of_lt la) (Nat.ne_of_lt (Nat.lt_succ_of_lt la)), ⟨⟨.none, he⟩, hit, Nat.succ_ne_self _⟩, fun b hb => ?_, q⟩
    have e' : b = s1.heap.objs.size + 1 ∨ b = s1.heap.objs.size := by simpa using hb
    have hle : s1.heap.objs.size ≤ b := by
      rcases e' with rfl | rfl
      · exact Nat.le_add_right _ _
      · exact Nat.le_refl _
    exact I1.fpOk hle (I1.hok.fresh hle)
end K22
set_option maxHeartbeats 1000000
/-! KL: max(xs, key=lambda one: one[0]) of a list of tuples, each with a number in front. -/
namespace K22
open PySem PySem.Spec PyProof.Rows L2 LamX
/-- the first index with the greatest key -/
theorem best_is (kf : Nat → Int) : ∀ n, argBest (fun i j => decide (kf j < kf i)) n ≤ n ∧ ∀ j, j ≤ n → kf j ≤ kf (argBest (fun i j => decide (kf j < kf i)) n)
  | 0 => ⟨Nat.le_refl _, fun j hj => by
    have e : j = 0 := by omega
    subst e
    exact Int.le_refl _⟩
  | n + 1 => by
    obtain ⟨h1, h2⟩ := best_is kf n
    unfold argBest
    by_cases h : kf (argBest (fun i j => decide (kf j < kf i)) n) < kf (n + 1)
    · rw [if_pos (by simpa using h)]
      refine ⟨Nat.le_refl _, fun j hj => ?_⟩
      by_cases e : j = n + 1
      · rw [e]; exact Int.le_refl _
      · have := h2 j (by omega); omega
    · rw [if_neg (by simpa using h)]
      refine ⟨by omega, fun j hj => ?_⟩
      by_cases e : j = n + 1
      · rw [e]; omega
      · exact h2 j (by omega)
/-- the lambda's one name is its parameter's -/
structure LamOne (x : Str) (scope : Scope) : Prop where
  kind : scope.kind = .function
  co : scope.isCoroutine = false
  gen : scope.isGenerator = false
  own : scope.names = [(x, .local)]
  db : (x == ("__debug__" : Str)) = false
section
variable {prog : Program} {w : World} {A : Around} {E : Value → Shared → Prop} {s : Shared}
/-- one[0], called with a tuple -/
theorem lam_at0 {x qual : Str} {params : Arguments} {scope : Scope} {cl : List (Str × Addr)} {pm ctv : Value} {c' f t : Addr} {its : Array Value} {k : Int} {u : Tok} {j : Nat} {p1 p2 p3 : Pos} {Q : Value → Shared → Prop} (L : LamOne x scope) (hr : A.depth < recursionLimit)
    (hf : s.heap.get? f = some (PySem.W.kla_obj "<lambda>" qual params (.Subscript (.Name x p1) (.Constant (.int 0) j p2) p3) scope cl pm c' ctv)) (hc : s.heap.CodeRec (.ref c') qual) (hlim : s.heap.NoLimit)
    (hbind : bindArgs (PySem.W.kla_fn "<lambda>" qual params (.Subscript (.Name x p1) (.Constant (.int 0) j p2) p3) scope cl pm (.ref c') ctv) ⟨[.ref t], []⟩ = pure [(x, .ref t)])
    (ht : IsTup s.heap t its) (h0 : its[0]? = some (.int k u))
    (h : ∀ h' tk, (∀ b o, s.heap.get? b = some o → h'.get? b = some o) → Q (.int k u) { s with heap := h', toks := tk }) : wpAny (model prog w) A (call (.ref f) [.ref t]) Q E s := by
  refine wpAny_call (PySem.W.kla_callFunE hr hf rfl L.co L.gen rfl hc ?_)
  rw [hbind]
  have lk : scope.names.lookup x = some .local := by rw [L.own]; simp
  refine wpAny_pure (wpAny_newFunctionEnv (fun y hy => ?_) (fun y hy => ?_) (fun h₁ hns hsb => ⟨hlim.fresh _ hsb, ?_⟩) L.kind)
  · rw [L.own] at hy
    rw [List.mem_singleton.mp hy]
    exact fun z => nomatch z
  · rw [List.mem_singleton.mp hy]
    exact lk
  show codeAny _ _ (.expr _ (PySem.W.envX qual scope s.heap.objs.size f (.ref c') cl)) _ _
  have kp : ∀ b o, s.heap.get? b = some o → h₁.get? b = some o := fun b o e => hsb.extBut b o (Nat.ne_of_lt (Heap.lt_size e)) (Heap.get?_push_of_some _ e)
  refine PySem.W.kla_codeExpr (Subscript_ ?_)
  refine wpAny_Name (wpAny_loadName_local (m := fun y => List.lookup y ([(x, Value.ref t)] : List (Str × Value)).reverse) (v := .ref t) L.kind lk hns ?_ ?_) L.db
  · simp
  · refine wpAny_Constant_int ?_
    refine subscriptTail_builtinR (x := .int k u) (ht.keeps kp).typeIs slot_tuple_getitem.lookup (getItem_tuple (j := 0) (ht.keeps kp) (by omega) (by omega) ?_ h0 ⟨rfl, ?_⟩)
    · have hlt := (Array.getElem?_eq_some_iff.mp h0).1
      unfold seqIndex?
      simp [hlt]
    · exact h h₁ _ kp
end
/-- max(e, key=lambda x: x[0]); H0: the heap at the def's entry -/
def tMaxK (T : List (Addr × Str)) (H0 : Hp) (ta : TA) : TE := fun σ H Q => ta σ H fun ws H1 => ∃ (a : Addr) (vs : List V) (kf : Nat → Int), ws = [.ref a] ∧ H1 a = some (.lst vs) ∧ 0 < vs.length ∧ Tabs T H1 ∧
  (∀ (i : Nat) (x : V), vs[i]? = some x → ∃ (t : Addr) (xs : List V), x = .ref t ∧ H1 t = some (.tup xs) ∧ xs[0]? = some (.int (kf i))) ∧
  ∀ (H2 : Hp) (i : Nat) (x : V), ExtN H1 H2 → (∀ b ps, H0 b = some (.tbl ps) → ∃ qs, H2 b = some (.tbl qs)) → Tabs T H2 → vs[i]? = some x → (∀ j, j < vs.length → kf j ≤ kf i) → Q x H2
section
variable {X : Cx}
theorem pe_maxKey {T : List (Addr × Str)} {c P : Addr} {e : Expr} {ta : TA} {x : Str} {params : Arguments} {scope : Scope} {j : Nat} {p p1 p2 p3 lpos kp pos : Pos} (hg : Gl X "max") (hm : X.mg "max" = none) (he : PA X [e] ta) (hr : Room 2 X.A) (hh : X.A.handled = none) (L : LamOne x scope)
    (TB : TabB X.base X.mg c P) (hcode : X.env.code = .ref c) (hmT : (P, X.env.qual ++ "<lambda>") ∈ T) (hu : ∀ p ∈ T, p.1 = P → p.2 = X.env.qual ++ "<lambda>") (hdef : defaultsOf params X.env = ([], []))
    (hbind : ∀ (q : Str) (cl : List (Str × Addr)) (pm cv ctv v : Value), bindArgs (PySem.W.kla_fn "<lambda>" q params (.Subscript (.Name x p1) (.Constant (.int 0) j p2) p3) scope cl pm cv ctv) ⟨[v], []⟩ = pure [(x, v)])
    (hs : backTo pos (starEach [e] X.env) = (false, eval e X.env) :: backTo pos (starEach [] X.env) := by rfl) (hpl : (backTo pos (starEach [e] X.env)).any (·.1) = false := by rfl) :
    PE X (.Call (.Name "max" p) [e] [⟨some (Str.ofString "key"), .Lambda params (.Subscript (.Name x p1) (.Constant (.int 0) j p2) p3) scope lpos, kp⟩] pos) (tMaxK T X.H_0 ta) := by
  refine ⟨fun pins s σ H Q I h => ?_⟩
  have hb : bootBuiltins (Str.ofString "max") = some (.builtin "max") := by decide +kernel
  refine wpAny_Call_Name_kw (ld_blt I hg hm hb ?_)
  refine PyProof.Rows.callWith_kw (thn (he.run pos pins s σ H _ I h) fun us s1 ⟨ws, H1, I1, r1, q1⟩ => ?_) hs hpl
  obtain ⟨a, vs, kf, rfl, hq, hne, hT, hvs, q⟩ := q1
  obtain ⟨u, rfl, r2⟩ := r1.one
  obtain rfl : u = Value.ref a := r2
  have hfree : ∀ y ∈ scope.names, y.2 = NameKind.free → ∃ c, X.env.cells.lookup y.1 = some c := fun y hy z => by
    rw [L.own] at hy
    rw [List.mem_singleton.mp hy] at z
    cases z
  refine kws_cons (lam_make2 I1 TB hcode hmT hu hT hdef hfree fun f c' pm ctv H2 s2 I2 eN T2 hf hfn hfr hco => kws_nil ?_)
  show wpAny _ _ (call (.builtin "max") [.ref a] [(Str.ofString "key", .ref f)]) _ _ _
  have hq2 : H2 a = some (.lst vs) := eN _ _ hq (fun _ z => nomatch z)
  obtain ⟨its, rv, pl, hz⟩ := I2.list (SqL.of hq2)
  have hlen : vs.length = its.length := rv.length
  have hh : X.A.handled = none := hr.hd
  refine call_max_walkK (wpAny_pyIter_list pl.isList ?_)
  have la : a < s2.heap.objs.size := pl.lt
  have lf : f < s2.heap.objs.size := Heap.lt_size hf
  have key : ∀ (i : Nat) (v : Value), its.toArray[i]? = some v → ∃ (t : Addr) (xs : List V), v = .ref t ∧ H2 t = some (.tup xs) ∧ xs[0]? = some (.int (kf i)) := fun i v hv => by
    have hv' : its[i]? = some v := by simpa using hv
    have hi : i < vs.length := by rw [hlen]; exact (List.getElem?_eq_some_iff.mp hv').1
    obtain ⟨t, xs, e1, e2, e3⟩ := hvs i _ (List.getElem?_eq_getElem hi)
    obtain ⟨v', e4, r4⟩ := rv.get (List.getElem?_eq_getElem hi)
    rw [hv'] at e4
    cases e4
    rw [e1] at r4
    exact ⟨t, xs, r4, eN _ _ e2 (fun _ z => nomatch z), e3⟩
  generalize hs3 : ({ s2 with heap := s2.heap.push { cls := .type "list_iterator", data := .fields #[.ref a, .int 0 0] } } : Shared) = s3
  have h3 : s3.heap = s2.heap.push { cls := .type "list_iterator", data := .fields #[.ref a, .int 0 0] } := by rw [← hs3]
  have I3 : Inv X pins σ H2 s3 := by
    rw [← hs3]
    exact I2.kept (t' := s2.toks) fun b o e => Heap.get?_push_of_some _ e
  have z3 : s3.heap.objs.size = s2.heap.objs.size + 1 := by rw [h3, Heap.size_push]
  have kp3 : ∀ b o, s2.heap.get? b = some o → s3.heap.get? b = some o := fun b o e => by rw [h3]; exact Heap.get?_push_of_some _ e
  refine ⟨s2.heap.objs.size, [s2.heap.objs.size, a], [s2.heap.objs.size], fun x y => y = x, its.toArray.size, fun i v => its.toArray[i]? = some v, fun i s => s.heap.IsListIter s2.heap.objs.size a i ∧ s.heap.IsList a its.toArray,
    fun s => Inv X pins σ H2 s ∧ s.heap.get? f = some (PySem.W.kla_obj "<lambda>" (X.env.qual ++ "<lambda>") params (.Subscript (.Name x p1) (.Constant (.int 0) j p2) p3) scope (cloFrom X.env.cells scope.names []) pm c' ctv),
    fun i k _ => ∃ t, k = .int (kf i) t, fun i j => decide (kf j < kf i), rfl, (Walks.list (by simpa using hh) s2.heap.objs.size a (Nat.ne_of_lt la) its.toArray).toS, ?_, ?_, ?_, ?_, ⟨I3, kp3 _ _ hf⟩, ?_⟩
  · exact ⟨⟨_, by rw [h3]; exact Heap.get?_push_size _ rfl, rfl, rfl⟩, (let ⟨o, n, e, c, _, d⟩ := pl; ⟨o, kp3 _ _ e, c, n, d⟩)⟩
  · intro b hb
    rw [z3]
    rcases List.mem_cons.mp hb with rfl | hb
    · exact Nat.lt_succ_self _
    · rw [List.mem_singleton.mp hb]
      exact Nat.lt_succ_of_lt la
  · rw [List.size_toArray, ← hlen]
    exact hne
  · have fS : ∀ {s : Shared}, Inv X pins σ H2 s → ∀ b ∈ [s3.heap.objs.size, s2.heap.objs.size], FpOk X pins H2 b := fun {s} J b hb => by
      have e' : b = s3.heap.objs.size ∨ b = s2.heap.objs.size := by simpa using hb
      rcases e' with rfl | rfl
      · exact I3.fpOk (Nat.le_refl _) (I3.hok.fresh (Nat.le_refl _))
      · exact I2.fpOk (Nat.le_refl _) (I2.hok.fresh (Nat.le_refl _))
    constructor
    · rintro s s' ⟨J, e⟩ m
      have es : s' = { s with heap := s'.heap, toks := s'.toks } := by
        cases s'
        cases s
        have g := m.gens
        have d := m.drawn
        have o := m.os
        dsimp only at g d o
        subst g
        subst d
        subst o
        rfl
      refine ⟨?_, m.heap _ _ (fun z => ?_) e⟩
      · rw [es]
        exact J.turnedL (ch := [s3.heap.objs.size, s2.heap.objs.size]) (fun b o hb q => m.heap b o hb q) (fS J)
      · have e' : f = s3.heap.objs.size ∨ f = s2.heap.objs.size := by simpa using z
        rcases e' with e' | e'
        · rw [e', z3] at lf
          exact absurd lf (Nat.not_lt_of_le (Nat.le_succ _))
        · rw [e'] at lf
          exact absurd lf (Nat.lt_irrefl _)
    · exact fun i k s s' h _ => h
    · rintro i v s o Q' E' hi hP ⟨J, ef⟩ st hS hQ
      obtain ⟨t, xs, rfl, ht, h0⟩ := key i v hP
      obtain ⟨ts, rt, pt, _⟩ := J.tuple (SqT.of ht)
      obtain ⟨u0, e0, r0⟩ := rt.get h0
      obtain ⟨tk0, rfl⟩ := r0
      obtain ⟨⟨oc, vs', tq, q1, q2, q3⟩, _, _⟩ := J.hok c' _ hco
      refine lam_at0 L (show X.A.in1.depth < recursionLimit by have := hr.dp; show X.A.depth < _; omega) ef ⟨c', oc, vs', tq, rfl, q1, q2, q3⟩ J.nolimit (hbind _ _ _ _ _ _) pt (by simpa using e0) fun h' tk kp => ?_
      exact hQ _ _ ⟨J.kept kp, kp _ _ ef⟩ ⟨st.1.at fun o e => kp _ _ e, st.2.at fun o e => kp _ _ e⟩ (kp _ _ hS) ⟨tk0, rfl⟩ fun _ _ z => z
    · rintro i j' ki kj s Q' E' J ⟨t, rfl⟩ ⟨t', rfl⟩ hQ
      exact gt_int hQ
  · rintro v s' hP ⟨J, _⟩
    have hP' : its[argBest (fun i j => decide (kf j < kf i)) (its.toArray.size - 1)]? = some v := by simpa using hP
    have hlt := (List.getElem?_eq_some_iff.mp hP').1
    obtain ⟨b1, b2⟩ := best_is kf (its.toArray.size - 1)
    have hi : argBest (fun i j => decide (kf j < kf i)) (its.toArray.size - 1) < vs.length := by rw [hlen]; exact hlt
    obtain ⟨v', e4, r4⟩ := rv.get (List.getElem?_eq_getElem hi)
    rw [hP'] at e4
    cases e4
    refine ⟨_, H2, J, r4, q H2 _ _ eN (fun b ps e => ?_) T2 (List.getElem?_eq_getElem hi) fun j' hj => b2 j' ?_⟩
    · obtain ⟨m, e2⟩ := J.base.tbls b ps e
      exact ⟨_, e2⟩
    · rw [List.size_toArray, ← hlen]
      omega
end
end K22
/-! KP: walks told by data; dicts told by data; more built-ins told by data. -/
namespace K22
open PySem PySem.Spec L2 LamX

/-- J walks ds while S holds -/
def JW (J : It) (ds : List PyData) (S : Hp → Prop) : Prop := ∀ i H, S H → (∀ d, ds[i]? = some d → J.go i H ∧ ∀ x H', J.yld i H x H' → (∀ T po, Ex T po H H') ∧ Dt H' x d) ∧ (ds.length ≤ i → J.stop i H)
/-- an iterator over data that other data hold -/
def EvI (T : List (Addr × Str)) (po : Option PenD) (Hb : Hp) (gs : List (V × AV)) (env : List AV) (wi : TI) (Pl : List PyData → Prop) : Prop :=
  ∀ (σ : L2.St) (H : Hp), Fr T po Hb gs env H σ → ∀ R : It → Hp → Prop, (∀ J H' ds (hs : List (V × PyData)), Ex T po H H' → Fr T po Hb gs env H' σ → (∀ p ∈ hs, Dt H' p.1 p.2) → JW J ds (fun H => ∀ p ∈ hs, Dt H p.1 p.2) → Pl ds → R J H') → wi σ H R
/-- .. that stays while nothing older is changed -/
def EvC (T : List (Addr × Str)) (po : Option PenD) (Hb : Hp) (gs : List (V × AV)) (env : List AV) (wi : TI) (Pl : List PyData → Prop) : Prop :=
  ∀ (σ : L2.St) (H : Hp), Fr T po Hb gs env H σ → ∀ R : It → Hp → Prop, (∀ J H' ds (S : Hp → Prop), Ex T po H H' → Fr T po Hb gs env H' σ → S H' → (∀ H1 H2, S H1 → Ex T po H1 H2 → S H2) → JW J ds S → Pl ds → R J H') → wi σ H R
section
variable {T : List (Addr × Str)} {po : Option PenD} {Hb : Hp} {gs : List (V × AV)} {env : List AV} {K : PySem.W.Frag} {ta tb te tl : TE} {tr : TA} {t u : TS} {tt : TT} {d : PyData} {Pd : PyData → Prop} {Pl Pm : List PyData → Prop} {σ : L2.St} {H : Hp} {D : Ends} {i j k : Nat} {wi : TI}
theorem EvI.c (h : EvI T po Hb gs env wi Pl) : EvC T po Hb gs env wi Pl := fun σ H F R q => h σ H F R fun J H' ds hs e F' hd w p => q J H' ds _ e F' hd (fun H1 H2 s e p hp => (s p hp).mono e.tup) w p
theorem EvC.imp (h : EvC T po Hb gs env wi Pl) (i : ∀ ds, Pl ds → Pm ds) : EvC T po Hb gs env wi Pm := fun σ H F R q => h σ H F R fun J H' ds S e F' s st w p => q J H' ds S e F' s st w (i ds p)
theorem EvI.imp (h : EvI T po Hb gs env wi Pl) (i : ∀ ds, Pl ds → Pm ds) : EvI T po Hb gs env wi Pm := fun σ H F R q => h σ H F R fun J H' ds hs e F' s w p => q J H' ds hs e F' s w (i ds p)
theorem ei_tup {ds : List PyData} (h : EvD T po Hb gs env tl (.tuple ds)) : EvI T po Hb gs env (iTup K tl) (· = ds) := fun σ H F R q => by
  refine h σ H F _ fun v0 H1 e1 F1 r1 => ?_
  obtain ⟨a, xs, rfl, h1, h2⟩ := id r1.t
  refine ⟨a, rfl, ⟨xs, SqT.of h1⟩, q _ H1 ds [(.ref a, .tuple ds)] e1 F1 (fun p hp => by rw [List.mem_singleton.mp hp]; exact r1) (fun i H' s => ?_) rfl⟩
  obtain ⟨b, ys, e, q4, q5⟩ := (s _ List.mem_cons_self).t
  cases e
  refine ⟨fun d hd => ?_, fun hl => ⟨ys, SqT.of q4, by rw [q5.len]; exact hl⟩⟩
  obtain ⟨v, hv, rd⟩ := q5.get hd
  refine ⟨⟨ys, v, SqT.of q4, hv⟩, fun x H2 y => ?_⟩
  obtain ⟨rfl, y⟩ := y
  have ex : x = v := Option.some.inj ((y ys (SqT.of q4)).symm.trans hv)
  rw [ex]
  exact ⟨fun _ _ => Ex.refl _, rd⟩
theorem ec_list (h : EvK T po Hb gs env tl Pl) : EvC T po Hb gs env (iList K tl) Pl := fun σ H F R q => by
  refine h σ H F _ fun a xs ds H1 e1 F1 np h1 h2 p1 => ?_
  refine ⟨a, rfl, ⟨xs, SqL.of h1⟩, q _ H1 ds (fun H => H a = some (.lst xs) ∧ DtA H xs ds) e1 F1 ⟨h1, h2⟩ (fun H1 H2 s e => ⟨e.lst np s.1, s.2.mono e.tup⟩) (fun i H' s => ?_) p1⟩
  obtain ⟨q4, q5⟩ := s
  refine ⟨fun d hd => ?_, fun hl => ⟨xs, SqL.of q4, by rw [q5.len]; exact hl⟩⟩
  obtain ⟨v, hv, rd⟩ := q5.get hd
  refine ⟨⟨xs, v, SqL.of q4, hv⟩, fun x H2 y => ?_⟩
  obtain ⟨rfl, y⟩ := y
  have ex : x = v := Option.some.inj ((y xs (SqL.of q4)).symm.trans hv)
  rw [ex]
  exact ⟨fun _ _ => Ex.refl _, rd⟩
/-- zip(.., .., strict=True) -/
def pairs : List PyData → List PyData → List PyData
  | x :: xs, y :: ys => .tuple [x, y] :: pairs xs ys
  | _, _ => []
theorem pairs_len : ∀ {xs ys : List PyData}, xs.length = ys.length → (pairs xs ys).length = xs.length
  | [], _, _ => by cases ‹List PyData› <;> rfl
  | _ :: xs, [], h => nomatch h
  | _ :: xs, _ :: ys, h => congrArg (· + 1) (pairs_len (Nat.succ.inj h))
theorem pairs_get : ∀ {xs ys : List PyData} {i : Nat} {d : PyData}, (pairs xs ys)[i]? = some d → ∃ x y, d = .tuple [x, y] ∧ xs[i]? = some x ∧ ys[i]? = some y
  | [], ys, _, _, h => by
    cases ys <;> simp [pairs] at h
  | _ :: _, [], _, _, h => by simp [pairs] at h
  | x :: xs, y :: ys, 0, d, h => by
    simp [pairs] at h
    exact ⟨x, y, h.symm, rfl, rfl⟩
  | x :: xs, y :: ys, i + 1, d, h => by
    obtain ⟨a, b, h1, h2, h3⟩ := pairs_get (xs := xs) (ys := ys) (i := i) (d := d) (by simpa [pairs] using h)
    exact ⟨a, b, h1, by simpa using h2, by simpa using h3⟩
theorem ei_zip {xs ys : List PyData} (h1 : EvD T po Hb gs env ta (.tuple xs)) (h2 : EvD T po Hb gs env tb (.tuple ys)) (hl : xs.length = ys.length) : EvI T po Hb gs env (iZipS K (tCons ta (tCons tb tNil))) (· = pairs xs ys) := fun σ H F R q => by
  refine h1 σ H F _ fun v H1 e1 F1 r1 => h2 σ H1 F1 _ fun v2 H2 e2 F2 r2 => ?_
  have r1' := r1.mono e2.tup
  obtain ⟨a, us, rfl, g1, g2⟩ := id r1'.t
  obtain ⟨b, ws, rfl, k1, k2⟩ := id r2.t
  refine ⟨a, b, us, ws, rfl, SqT.of g1, SqT.of k1, q _ H2 (pairs xs ys) [(.ref a, .tuple xs), (.ref b, .tuple ys)] (e1.trans e2) F2 (fun p hp => ?_) (fun i H' s => ?_) rfl⟩
  · rcases List.mem_cons.mp hp with rfl | hp
    · exact r1'
    · rw [List.mem_singleton.mp hp]
      exact r2
  obtain ⟨a', us', e, g1, g2⟩ := (s _ List.mem_cons_self).t
  cases e
  obtain ⟨b', ws', e, k1, k2⟩ := (s _ (List.mem_cons_of_mem _ List.mem_cons_self)).t
  cases e
  refine ⟨fun d hd => ?_, fun hle => ⟨us', ws', SqT.of g1, SqT.of k1, ?_, ?_⟩⟩
  · obtain ⟨x, y, rfl, hx, hy⟩ := pairs_get hd
    obtain ⟨vx, hvx, rx⟩ := g2.get hx
    obtain ⟨vy, hvy, ry⟩ := k2.get hy
    refine ⟨⟨us', ws', vx, vy, SqT.of g1, SqT.of k1, hvx, hvy⟩, fun z H3 w => ?_⟩
    obtain ⟨p, x', y', rfl, hp, rfl, w1, w2⟩ := w
    have ex : x' = vx := Option.some.inj ((w1 us' (SqT.of g1)).symm.trans hvx)
    have ey : y' = vy := Option.some.inj ((w2 ws' (SqT.of k1)).symm.trans hvy)
    subst ex
    subst ey
    have tk : Tk H' (upd H' p (.tup [x', y'])) := (Ex.new (T := []) (po := none) hp).tup
    exact ⟨fun _ _ => Ex.new hp, .tup upd_same (.cons (rx.mono tk) (.cons (ry.mono tk) .nil))⟩
  · rw [g2.len, ← pairs_len hl]; exact hle
  · rw [k2.len, ← hl, ← pairs_len hl]; exact hle
/-! ### tuples of pairs that are known -/
abbrev prD : PyData × PyData → PyData := fun p => .tuple [p.1, p.2]
theorem Dt.q {H : Hp} {v : V} {kvs : List (PyData × PyData)} (h : Dt H v (.dict kvs)) : ∃ a xs, v = .ref a ∧ (∀ K, SqT K H a xs) ∧ DtA H xs (kvs.map prD) := by
  cases h with
  | fz h e r => exact ⟨_, _, rfl, fun K => .inl (.inr ⟨_, h⟩), r⟩
theorem ei_fz {kvs : List (PyData × PyData)} (h : EvD T po Hb gs env tl (.dict kvs)) : EvI T po Hb gs env (iTup K tl) (· = kvs.map prD) := fun σ H F R q => by
  refine h σ H F _ fun v H1 e1 F1 r1 => ?_
  obtain ⟨a, xs, rfl, h1, h2⟩ := id r1.q
  refine ⟨a, rfl, ⟨xs, h1 K⟩, q _ H1 (kvs.map prD) [(.ref a, .dict kvs)] e1 F1 (fun p hp => by rw [List.mem_singleton.mp hp]; exact r1) (fun i H' s => ?_) rfl⟩
  obtain ⟨a', xs', e, h1, h2⟩ := (s _ List.mem_cons_self).q
  cases e
  refine ⟨fun d hd => ?_, fun hle => ⟨xs', h1 K, by rw [h2.len]; exact hle⟩⟩
  obtain ⟨x, hx, rd⟩ := h2.get hd
  refine ⟨⟨xs', x, h1 K, hx⟩, fun z H2 w => ?_⟩
  obtain ⟨rfl, w⟩ := w
  rw [Option.some.inj ((w xs' (h1 K)).symm.trans hx)]
  exact ⟨fun _ _ => Ex.refl _, rd⟩
theorem ei_zipQ {xs : List PyData} {kvs : List (PyData × PyData)} (h1 : EvD T po Hb gs env ta (.tuple xs)) (h2 : EvD T po Hb gs env tb (.dict kvs)) (hl : xs.length = kvs.length) : EvI T po Hb gs env (iZipS K (tCons ta (tCons tb tNil))) (· = pairs xs (kvs.map prD)) := fun σ H F R q => by
  have hl2 : xs.length = (kvs.map prD).length := by rw [List.length_map]; exact hl
  refine h1 σ H F _ fun v H1 e1 F1 r1 => h2 σ H1 F1 _ fun v2 H2 e2 F2 r2 => ?_
  have r1' := r1.mono e2.tup
  obtain ⟨a, us, rfl, g1, g2⟩ := id r1'.t
  obtain ⟨b, ws, rfl, k1, k2⟩ := id r2.q
  refine ⟨a, b, us, ws, rfl, SqT.of g1, k1 K, q _ H2 (pairs xs (kvs.map prD)) [(.ref a, .tuple xs), (.ref b, .dict kvs)] (e1.trans e2) F2 (fun p hp => ?_) (fun i H' s => ?_) rfl⟩
  · rcases List.mem_cons.mp hp with rfl | hp
    · exact r1'
    · rw [List.mem_singleton.mp hp]
      exact r2
  obtain ⟨a', us', e, g1, g2⟩ := (s _ List.mem_cons_self).t
  cases e
  obtain ⟨b', ws', e, k1, k2⟩ := (s _ (List.mem_cons_of_mem _ List.mem_cons_self)).q
  cases e
  refine ⟨fun d hd => ?_, fun hle => ⟨us', ws', SqT.of g1, k1 K, ?_, ?_⟩⟩
  · obtain ⟨x, y, rfl, hx, hy⟩ := pairs_get hd
    obtain ⟨vx, hvx, rx⟩ := g2.get hx
    obtain ⟨vy, hvy, ry⟩ := k2.get hy
    refine ⟨⟨us', ws', vx, vy, SqT.of g1, k1 K, hvx, hvy⟩, fun z H3 w => ?_⟩
    obtain ⟨p, x', y', rfl, hp, rfl, w1, w2⟩ := w
    have ex : x' = vx := Option.some.inj ((w1 us' (SqT.of g1)).symm.trans hvx)
    have ey : y' = vy := Option.some.inj ((w2 ws' (k1 K)).symm.trans hvy)
    subst ex
    subst ey
    have tk : Tk H' (upd H' p (.tup [x', y'])) := (Ex.new (T := []) (po := none) hp).tup
    exact ⟨fun _ _ => Ex.new hp, .tup upd_same (.cons (rx.mono tk) (.cons (ry.mono tk) .nil))⟩
  · rw [g2.len, ← pairs_len hl2]; exact hle
  · rw [k2.len, ← hl2, ← pairs_len hl2]; exact hle
/-- enumerate(a tuple) -/
def enumD (n : Nat) : List PyData → List PyData
  | [] => []
  | x :: xs => .tuple [.int (n : Nat), x] :: enumD (n + 1) xs
theorem enumD_len : ∀ {xs : List PyData} {n : Nat}, (enumD n xs).length = xs.length
  | [], _ => rfl
  | _ :: xs, n => congrArg (· + 1) (enumD_len (xs := xs))
theorem enumD_get : ∀ {xs : List PyData} {n i : Nat} {d : PyData}, (enumD n xs)[i]? = some d → ∃ x, d = .tuple [.int ((n + i : Nat) : Int), x] ∧ xs[i]? = some x
  | [], _, _, _, h => by simp [enumD] at h
  | x :: xs, n, 0, d, h => by
    simp [enumD] at h
    exact ⟨x, h.symm, rfl⟩
  | x :: xs, n, i + 1, d, h => by
    obtain ⟨a, h1, h2⟩ := enumD_get (xs := xs) (n := n + 1) (i := i) (d := d) (by simpa [enumD] using h)
    exact ⟨a, by rw [h1]; congr 4; omega, by simpa using h2⟩
theorem ei_enum {xs : List PyData} (h1 : EvD T po Hb gs env ta (.tuple xs)) : EvI T po Hb gs env (iEnumT K (tCons ta tNil)) (· = enumD 0 xs) := fun σ H F R q => by
  refine h1 σ H F _ fun v H1 e1 F1 r1 => ?_
  obtain ⟨a, us, rfl, g1, g2⟩ := id r1.t
  refine ⟨a, us, rfl, SqT.of g1, q _ H1 (enumD 0 xs) [(.ref a, .tuple xs)] e1 F1 (fun p hp => by rw [List.mem_singleton.mp hp]; exact r1) (fun i H' s => ?_) rfl⟩
  obtain ⟨a', us', e, g1, g2⟩ := (s _ List.mem_cons_self).t
  cases e
  refine ⟨fun d hd => ?_, fun hle => ⟨us', SqT.of g1, by rw [g2.len, ← enumD_len (n := 0)]; exact hle⟩⟩
  obtain ⟨x, rfl, hx⟩ := enumD_get hd
  obtain ⟨vx, hvx, rx⟩ := g2.get hx
  refine ⟨⟨us', vx, SqT.of g1, hvx⟩, fun z H3 w => ?_⟩
  obtain ⟨p, x', rfl, hp, rfl, w1⟩ := w
  have ex : x' = vx := Option.some.inj ((w1 us' (SqT.of g1)).symm.trans hvx)
  subst ex
  have tk : Tk H' (upd H' p (.tup [.int (i : Nat), x'])) := (Ex.new (T := []) (po := none) hp).tup
  refine ⟨fun _ _ => Ex.new hp, .tup upd_same (.cons ?_ (.cons (rx.mono tk) .nil))⟩
  rw [Nat.zero_add]
  exact .int _

/-! ### a loop over such a walk -/
def asD (hs : List (V × PyData)) : List (V × AV) := hs.map fun p => (p.1, .d p.2)
theorem Fr.asides : ∀ {hs : List (V × PyData)}, Fr T po Hb gs env H σ → (∀ p ∈ hs, Dt H p.1 p.2) → Fr T po Hb (asD hs ++ gs) env H σ
  | [], F, _ => F
  | p :: hs, F, h => (Fr.asides (hs := hs) F fun q hq => h q (List.mem_cons_of_mem _ hq)).asideD (h p List.mem_cons_self)
theorem Fr.drops : ∀ {hs : List (V × PyData)}, Fr T po Hb (asD hs ++ gs) env H σ → Fr T po Hb gs env H σ
  | [], F => F
  | p :: hs, F => Fr.drops (hs := hs) (Fr.drop (g := (p.1, .d p.2)) F)
theorem Fr.held {hs : List (V × PyData)} (F : Fr T po Hb (asD hs ++ gs) env H σ) : ∀ p ∈ hs, Dt H p.1 p.2 := fun p hp => by
  obtain ⟨v, e, r⟩ := (F.gh (p.1, .d p.2) (List.mem_append_left _ (List.mem_map.mpr ⟨p, hp, rfl⟩))).1
  cases Option.some.inj (Option.some.inj e)
  exact r
theorem st_forI {g : TG} (I : List PyData → Nat → List AV → Prop) (F : Fr T po Hb gs env H σ) (h : EvI T po Hb gs env wi Pl) (h0 : ∀ ds, Pl ds → I ds 0 env)
    (hs : ∀ gs' ds (n : Nat) (d : PyData) (v : V) (env' : List AV) (σ' : L2.St) (H' : Hp), Pl ds → ds[n]? = some d → Fr T po Hb gs' env' H' σ' → I ds n env' → Dt H' v d →
      g v σ' H' fun σ2 H2 => t { D with nx := Lv T po Hb gs' (fun n e _ _ => I ds n e) (n + 1), ct := Lv T po Hb gs' (fun n e _ _ => I ds n e) (n + 1), bk := D.nx } σ2 H2)
    (hd : ∀ ds env' σ' H', Pl ds → Fr T po Hb gs env' H' σ' → I ds ds.length env' → D.nx σ' H') : tFor wi g t D σ H := by
  refine h σ H F _ fun J H1 ds hss e1 F1 hold w p1 => ?_
  refine ⟨fun n m σ' H' => m = ds.length - n ∧ n ≤ ds.length ∧ Lv T po Hb (asD hss ++ gs) (fun n e _ _ => I ds n e) n σ' H', ⟨ds.length, rfl, Nat.zero_le _, env, F1.asides hold, h0 ds p1⟩, ?_⟩
  rintro n m σ' H' ⟨rfl, hn, env', F', i'⟩
  obtain ⟨w1, w2⟩ := w n H' F'.held
  by_cases hlt : n < ds.length
  · obtain ⟨go, y⟩ := w1 ds[n] (List.getElem?_eq_getElem hlt)
    refine .inr ⟨go, Lv T po Hb (asD hss ++ gs) (fun n e _ _ => I ds n e) (n + 1), fun σ3 H3 l3 => ⟨ds.length - (n + 1), by omega, rfl, hlt, l3⟩, fun x H3 yy => ?_⟩
    obtain ⟨ex, rd⟩ := y x H3 yy
    exact hs _ ds n ds[n] x env' σ' H3 p1 (List.getElem?_eq_getElem hlt) (F'.mono (ex T po)) i' rd
  · have e : n = ds.length := by omega
    subst e
    exact .inl ⟨w2 (Nat.le_refl _), hd ds env' σ' H' p1 F'.drops i'⟩
end

/-! ### comprehensions over such a walk -/
section
variable {T : List (Addr × Str)} {po : Option PenD} {Hb : Hp} {gs : List (V × AV)} {env : List AV} {K : PySem.W.Frag} {ta tb te tl : TE} {tr : TA} {t u : TS} {tt : TT} {d : PyData} {Pd : PyData → Prop} {Pl Pm : List PyData → Prop} {σ : L2.St} {H : Hp} {D : Ends} {i j k : Nat} {wi : TI} {g : TG} {vs : List Nat} {up : PyData → List AV}
/-- the target takes a datum -/
def TgOk (T : List (Addr × Str)) (po : Option PenD) (Hb : Hp) (gs : List (V × AV)) (env : List AV) (g : TG) (vs : List Nat) (up : PyData → List AV) (Pd : PyData → Prop) : Prop :=
  ∀ (σ : L2.St) (H : Hp) (v : V) (d : PyData) (Q : L2.St → Hp → Prop), Fr T po Hb gs env H σ → Dt H v d → Pd d → (∀ σ', Fr T po Hb gs (up d) H σ' → wipe σ' vs = wipe σ vs → Q σ' H) → g v (wipe σ vs) H Q
theorem tg_name : TgOk T po Hb gs env (gName i) [i] (fun d => env.set i (.d d)) (fun _ => True) := fun σ H v d Q F r _ q => by
  have e : (wipe σ [i]).set i (some v) = σ.set i (some v) := List.set_set ..
  show Q ((wipe σ [i]).set i (some v)) H
  rw [e]
  exact q _ (F.setD r) (List.set_set ..)
def up2 (env : List AV) (i j : Nat) : PyData → List AV
  | .tuple [x, y] => (env.set i (.d x)).set j (.d y)
  | _ => env
theorem tg_pair (hij : i ≠ j) : TgOk T po Hb gs env (gTup K 2 (gCons (gName i) (gCons (gName j) gNil))) [i, j] (up2 env i j) (fun d => ∃ x y, d = .tuple [x, y]) := fun σ H v d Q F r ⟨x, y, ed⟩ q => by
  subst ed
  obtain ⟨a, xs, rfl, h1, h2⟩ := r.t
  cases h2 with
  | @cons v1 _ _ _ r1 h2 =>
    cases h2 with
    | @cons v2 _ _ _ r2 h2 =>
      cases h2
      refine ⟨a, _, rfl, SqT.of h1, rfl, _, _, rfl, _, _, rfl, rfl, ?_⟩
      have e : ((wipe σ [i, j]).set i (some v1)).set j (some v2) = (σ.set i (some v1)).set j (some v2) := by
        show ((((σ.set j none).set i none).set i (some v1)).set j (some v2)) = _
        rw [List.set_set, List.set_comm (i := i) (j := j) _ _ hij, List.set_set]
        exact (List.set_comm _ _ hij).symm
      show Q (((wipe σ [i, j]).set i (some v1)).set j (some v2)) H
      rw [e]
      refine q _ ((F.setD r1).setD r2) ?_
      show (((σ.set i (some v1)).set j (some v2)).set j none).set i none = (σ.set j none).set i none
      rw [List.set_set, List.set_comm (i := i) (j := j) _ _ hij, List.set_set]
theorem lc_turn {Pt : PyData → Prop} {Pb : PyData → Bool → Prop} {Pe : PyData → PyData → Prop} {H1 B : Hp} {L : Addr} {acc : List V} {done out : List PyData} {v : V} {d : PyData} {Nx : Hp → Prop} (tg : TgOk T po Hb gs env g vs up Pt)
    (F : Fr T po Hb gs env H1 σ) (eB : Ex T po B H1) (hB : B L = none) (pB : ∀ P, po = some P → Pen P B) (hL : H1 L = some (.lst acc)) (hLb : Hb L = none) (hLs : Off gs env σ L) (hacc : DtA H1 acc out) (hl : out.length < 16777216) (r : Dt H1 v d) (hpt : Pt d)
    (ht : EvT T po Hb gs (up d) tt (Pb d)) (he : Pb d true → Ev T po Hb gs (up d) te (Pe d))
    (n1 : ∀ H2 acc2 out2, Fr T po Hb gs env H2 σ → Ex T po B H2 → H2 L = some (.lst acc2) → DtA H2 acc2 out2 → CompR Pb Pe (done ++ [d]) out2 → Nx H2) (hR : CompR Pb Pe done out) :
    g v (wipe σ vs) H1 fun σ2 H2 => wipe σ2 vs = wipe σ vs ∧ tt σ2 H2 fun b H3 => if b = true then te σ2 H3 fun y H4 => ∃ acc, H4 L = some (.lst acc) ∧ acc.length < sizeLine ∧ Nx (upd H4 L (.lst (acc ++ [y]))) else Nx H3 := by
  refine tg σ H1 v d _ F r hpt fun σ' Fw ew => ⟨ew, ?_⟩
  refine ht _ H1 Fw _ fun b H3 e3 F3 p3 => ?_
  have np : NP po L := F.notPen hLb
  cases b with
  | true =>
    rw [if_pos rfl]
    refine he p3 _ H3 F3 _ fun y d' H4 e4 F4 r4 p4 => ?_
    have hL4 : H4 L = some (.lst acc) := e4.lst np (e3.lst np hL)
    refine ⟨acc, hL4, small24' (by rw [hacc.len]; exact hl), ?_⟩
    obtain ⟨F6, tk⟩ := (F.mono (e3.trans e4)).other (o := .lst (acc ++ [y])) hLb hL4 (fun z => z) (fun q ps => ⟨fun z => codeO_lst acc z.symm, fun z => nomatch z⟩) hLs
    exact n1 _ _ _ F6 ((eB.trans (e3.trans e4)).mut pB hB hL4) upd_same (DtA.app ((hacc.mono (e3.trans e4).tup).mono tk) (.cons (r4.mono tk) .nil)) (.keep hR p3 p4)
  | false =>
    rw [if_neg Bool.false_ne_true]
    exact n1 _ _ _ (F.mono e3) (eB.trans e3) (e3.lst np hL) (hacc.mono e3.tup) (.skip hR p3)
theorem el_compC {Pt : PyData → Prop} (Pb : PyData → Bool → Prop) (Pe : PyData → PyData → Prop) (h : EvC T po Hb gs env wi Pl) (tg : TgOk T po Hb gs env g vs up Pt) (hl : ∀ ds, Pl ds → ds.length < 16777216 ∧ ∀ d ∈ ds, Pt d)
    (ht : ∀ ds, Pl ds → ∀ d ∈ ds, EvT T po Hb gs (up d) tt (Pb d)) (he : ∀ ds, Pl ds → ∀ d ∈ ds, Pb d true → Ev T po Hb gs (up d) te (Pe d)) : EvL T po Hb gs env (tLc wi g tt te vs) (fun out => ∃ ds, Pl ds ∧ CompR Pb Pe ds out) := fun σ H F Q q => by
  refine h σ H F _ fun J H1 ds S e1 F1 s1 st w p1 => fun L hL => ?_
  have off := F1.off hL
  have hb0 := F1.ext.dom L hL
  have e2 : Ex T po H1 (upd H1 L (.lst [])) := Ex.new hL
  obtain ⟨hlen, hpt⟩ := hl ds p1
  refine ⟨fun n m H' => m = ds.length - n ∧ n ≤ ds.length ∧ ∃ acc out, Fr T po Hb gs env H' σ ∧ Ex T po H1 H' ∧ H' L = some (.lst acc) ∧ DtA H' acc out ∧ CompR Pb Pe (ds.take n) out, ⟨ds.length, rfl, Nat.zero_le _, [], [], F1.mono e2, e2, upd_same, .nil, .nil⟩, ?_⟩
  rintro n m H' ⟨rfl, hn, acc, out, F2, e, hL2, r2, c2⟩
  obtain ⟨w1, w2⟩ := w n H' (st _ _ s1 e)
  by_cases hlt : n < ds.length
  · have hd : ds[n]? = some ds[n] := List.getElem?_eq_getElem hlt
    have hm : ds[n] ∈ ds := List.mem_of_getElem? hd
    obtain ⟨go, y⟩ := w1 ds[n] hd
    refine .inr ⟨go, fun H2 => n + 1 ≤ ds.length ∧ ∃ acc out, Fr T po Hb gs env H2 σ ∧ Ex T po H1 H2 ∧ H2 L = some (.lst acc) ∧ DtA H2 acc out ∧ CompR Pb Pe (ds.take (n + 1)) out, fun H2 nx => ⟨ds.length - (n + 1), by omega, rfl, nx⟩, fun x H3 yy => ?_⟩
    obtain ⟨ex, rd⟩ := y x H3 yy
    have np : NP po L := F2.notPen hb0
    have hle := c2.le
    rw [List.length_take] at hle
    refine lc_turn tg (F2.mono (ex T po)) (e.trans (ex T po)) hL F1.penNow ((ex T po).lst np hL2) hb0 off (r2.mono (ex T po).tup) (by omega) rd (hpt _ hm) (ht ds p1 _ hm) (he ds p1 _ hm) (fun H4 acc4 out4 F4 e4 hL4 r4 c4 => ?_) c2
    exact ⟨hlt, acc4, out4, F4, e4, hL4, r4, by rw [take_snoc hd]; exact c4⟩
  · have en : n = ds.length := by omega
    subst en
    rw [List.take_length] at c2
    exact .inl ⟨w2 (Nat.le_refl _), q L acc out H' (e1.trans e) F2 (e1.dom L hL) hL2 r2 ⟨ds, p1, c2⟩⟩

/-! ### dicts -/
theorem Ex.mutX {L : Addr} {H H1 : Hp} {o u : HO} (e : Ex T po H H1) (hp : ∀ P, po = some P → Pen P H) (h0 : H L = none) (h1 : H1 L = some u) (hT : ∀ q ps, u ≠ CodeO L q ∧ u ≠ .tbl ps) : Ex T po H (upd H1 L o) := by
  refine ⟨fun b o h1 h2 h => ?_, .of fun b u hu h => ?_, fun P hP h => ?_, fun b h => ?_, fun h => tabs_other (e.tab h) h1 hT⟩
  · rw [upd_ne (ne_of_none h h0)]
    exact e.keep b o h1 h2 h
  · rw [upd_ne (ne_of_none h h0)]
    exact e.tup.at hu h
  · have q := e.pen P hP h
    have hpa : P.p ≠ L := fun z => by
      have w := h.some
      rw [z, h0] at w
      cases w
    have hca : P.c ≠ L := fun z => by
      have w := h.someC
      rw [z, h0] at w
      cases w
    obtain ⟨⟨i', j', q1⟩, q2, q3⟩ := q
    exact ⟨⟨i', j', by rw [upd_ne hpa]; exact q1⟩, by rw [upd_ne hca]; exact q2, q3⟩
  · by_cases eb : b = L
    · subst eb
      rw [upd_same] at h
      cases h
    · rw [upd_ne eb] at h
      exact e.dom b h
end
/-! ### dicts told by data -/
theorem dn_notCode {P : Program} {w : World} {a : Addr} {o : Obj} {xs : List (NestedKey × Addr × Value)} (h : ∃ h, DNr P w a o xs h) : ∀ q ps, DNo P w a o xs ≠ CodeO a q ∧ DNo P w a o xs ≠ .tbl ps := fun q ps => by
  refine ⟨fun z => ?_, fun z => nomatch z⟩
  obtain ⟨h, hd⟩ := h
  unfold CodeO at z
  injection z with z
  have e := congrFun z h
  have hc : (∃ (oc : Obj) (vs : Array Value) (t : Tok), h.get? a = some oc ∧ oc.data = .fields vs ∧ vs[1]? = some (.str q t)) := by rw [← e]; exact hd
  obtain ⟨oc, vs, t, h1, h2, _⟩ := hc
  obtain ⟨g1, _, _, ⟨es, ep, g2, _⟩, _⟩ := hd
  rw [g1] at h1
  cases h1
  rw [g2] at h2
  cases h2
/-- a new dict of which Pn -/
def EvN (P : Program) (w : World) (T : List (Addr × Str)) (po : Option PenD) (Hb : Hp) (gs : List (V × AV)) (env : List AV) (te : TE) (Pn : NT → Prop) : Prop :=
  ∀ (σ : L2.St) (H : Hp), Fr T po Hb gs env H σ → ∀ Q : VK, (∀ a kvs H', Ex T po H H' → Fr T po Hb gs env H' σ → H a = none → DN P w H' a kvs → Pn kvs → Q (.ref a) H') → te σ H Q
section
variable {P : Program} {w : World} {T : List (Addr × Str)} {po : Option PenD} {Hb : Hp} {gs : List (V × AV)} {env : List AV} {K : PySem.W.Frag} {ta tb te tl : TE} {tr : TA} {t u : TS} {tt : TT} {d c : PyData} {Pd : PyData → Prop} {Pl Pm : List PyData → Prop} {Pn : NT → Prop} {σ : L2.St} {H : Hp} {D : Ends} {i j k : Nat} {wi : TI} {g : TG} {vs : List Nat} {up : PyData → List AV}
/-- a dict is written -/
theorem Fr.putN {a : Addr} {o : HO} {kvs : NT} (F : Fr T po Hb gs env H σ) (h0 : Hb a = none) (hd : DN P w H a kvs) (off : Off gs env σ a) : Fr T po Hb gs env (upd H a o) σ ∧ Tk H (upd H a o) := by
  obtain ⟨_, o', xs, h1, _, h3⟩ := hd
  exact F.other h0 h1 (fun z => z) (dn_notCode h3) off
/-- the dict of these keys, all with the value c -/
def buildN (kf : PyData → NestedKey) (c : PyData) (ds : List PyData) : NT := ds.foldl (fun t d => setN t (kf d) c) []
theorem buildN_snoc {kf : PyData → NestedKey} {c : PyData} {ds : List PyData} {d : PyData} : buildN kf c (ds ++ [d]) = setN (buildN kf c ds) (kf d) c := by
  unfold buildN
  rw [List.foldl_append]
  rfl
theorem foldN_len (kf : PyData → NestedKey) (c : PyData) : ∀ (ds : List PyData) (t : NT), (ds.foldl (fun t d => setN t (kf d) c) t).length ≤ t.length + ds.length
  | [], t => Nat.le_refl _
  | d :: ds, t => by
    have h := foldN_len kf c ds (setN t (kf d) c)
    have h2 := setN_len t (kf d) c
    show (List.foldl _ (setN t (kf d) c) ds).length ≤ _
    rw [List.length_cons]
    omega
theorem buildN_len (kf : PyData → NestedKey) (c : PyData) (ds : List PyData) : (buildN kf c ds).length ≤ ds.length := by
  have h := foldN_len kf c ds []
  rw [List.length_nil, Nat.zero_add] at h
  exact h
/-- {target: c for target in ..} -/
theorem en_dc {Pt : PyData → Prop} (kf : PyData → NestedKey) (h : EvC T po Hb gs env wi Pl) (tg : TgOk T po Hb gs env g vs up Pt) (hl : ∀ ds, Pl ds → ds.length < 16777216 ∧ ∀ d ∈ ds, Pt d ∧ kd (kf d) = d ∧ (kf d).depth ≤ 8 ∧ ∃ es, d = .tuple es)
    (hk : ∀ ds, Pl ds → ∀ d ∈ ds, EvD T po Hb gs (up d) ta d) (hv : ∀ ds, Pl ds → ∀ d ∈ ds, EvD T po Hb gs (up d) tb c) : EvN P w T po Hb gs env (tDcN P w wi g ta tb vs) (fun kvs => ∃ ds, Pl ds ∧ kvs = buildN kf c ds) := fun σ H F Q q => by
  refine h σ H F _ fun J H1 ds S e1 F1 s1 st wk p1 => fun L ob hL hob => ?_
  have off := F1.off hL
  have hb0 := F1.ext.dom L hL
  have e2 : Ex T po H1 (upd H1 L (DNo P w L ob [])) := Ex.new hL
  obtain ⟨hlen, hpt⟩ := hl ds p1
  refine ⟨fun n m H' => m = ds.length - n ∧ n ≤ ds.length ∧ Fr T po Hb gs env H' σ ∧ Ex T po H1 H' ∧ DN P w H' L (buildN kf c (ds.take n)), ⟨ds.length, rfl, Nat.zero_le _, F1.mono e2, e2, Nat.zero_le _, ob, [], upd_same, .nil, hob⟩, ?_⟩
  rintro n m H' ⟨rfl, hn, F2, e, hD⟩
  obtain ⟨w1, w2⟩ := wk n H' (st _ _ s1 e)
  by_cases hlt : n < ds.length
  · have hd : ds[n]? = some ds[n] := List.getElem?_eq_getElem hlt
    have hm : ds[n] ∈ ds := List.mem_of_getElem? hd
    obtain ⟨go, y⟩ := w1 ds[n] hd
    refine .inr ⟨go, fun H2 => n + 1 ≤ ds.length ∧ Fr T po Hb gs env H2 σ ∧ Ex T po H1 H2 ∧ DN P w H2 L (buildN kf c (ds.take (n + 1))), fun H2 nx => ⟨ds.length - (n + 1), by omega, rfl, nx⟩, fun x H3 yy => ?_⟩
    obtain ⟨ex, rd⟩ := y x H3 yy
    obtain ⟨ht, hkd, hdp, es, hes⟩ := hpt _ hm
    have np : NP po L := F2.notPen hb0
    refine tg σ H3 x ds[n] _ (F2.mono (ex T po)) rd ht fun σ' Fw ew => ⟨ew, ?_⟩
    refine hk ds p1 _ hm σ' H3 Fw _ fun yk H4 e4 F4 r4 => hv ds p1 _ hm σ' H4 F4 _ fun yv H5 e5 F5 r5 => ?_
    have r4' : Dt H5 yk (.tuple es) := hes ▸ r4.mono e5.tup
    obtain ⟨b, us, rfl, g1, g2⟩ := r4'.t
    have eAll : Ex T po H' H5 := ((ex T po).trans e4).trans e5
    have hD5 : DN P w H5 L (buildN kf c (ds.take n)) := hD.keep eAll np
    have lenN := buildN_len kf c (ds.take n)
    rw [List.length_take] at lenN
    refine ⟨b, _, kf ds[n], c, rfl, hD5, by rw [hkd]; exact r4.mono e5.tup, hdp, small24' (by omega), r5, fun o xs hd' => ?_⟩
    have F6 : Fr T po Hb gs env H5 σ := F2.mono eAll
    obtain ⟨F7, _⟩ := F6.putN (o := DNo P w L o xs) hb0 hD5 off
    obtain ⟨_, o', xs', h1, _, h3⟩ := hD5
    refine ⟨hlt, F7, (e.trans eAll).mutX F1.penNow hL h1 (dn_notCode h3), ?_⟩
    rw [take_snoc hd, buildN_snoc]
    exact hd'
  · have en : n = ds.length := by omega
    subst en
    rw [List.take_length] at hD
    exact .inl ⟨w2 (Nat.le_refl _), q L _ H' (e1.trans e) F2 (e1.dom L hL) hD ⟨ds, p1, rfl⟩⟩
theorem ents_dt {H : Hp} {kvs : NT} {xs : List (NestedKey × Addr × Value)} (h : EntsN H kvs xs) : DtA H (xs.map fun x => .ref x.2.1) (kvs.map fun p => kd p.1) := by
  induction h with
  | nil => exact .nil
  | cons h _ ih => exact .cons h.2.1 ih
/-- list(a dict) -/
theorem el_listN (h : EvN P w T po Hb gs env te Pn) : EvL T po Hb gs env (tCB (rListN P w) (tCons te tNil)) (fun ds => ∃ kvs, Pn kvs ∧ ds = kvs.map fun p => kd p.1) := fun σ H F Q q => by
  refine h σ H F _ fun a kvs H1 e1 F1 n1 ⟨hz, o, xs, h1, h2, _⟩ p1 => ?_
  refine ⟨a, o, xs, rfl, h1, by rw [← h2.length]; exact hz, fun p hp => ?_⟩
  have e2 : Ex T po H1 (upd H1 p (.lst (xs.map fun x => .ref x.2.1))) := Ex.new hp
  exact q _ _ _ _ (e1.trans e2) (F1.mono e2) (e1.dom p hp) upd_same ((ents_dt h2).mono e2.tup) ⟨kvs, p1, rfl⟩
end
/-- a dict that stands, walked by its keys -/
theorem jw_keys {P : Program} {w : World} {H1 : Hp} {a : Addr} {o : Obj} {xs : List (NestedKey × Addr × Value)} {kvs : NT} (h2 : EntsN H1 kvs xs) : JW (ItN P w a o xs) (kvs.map fun p => kd p.1) (fun H => H a = some (DNo P w a o xs) ∧ DtA H (xs.map fun x => .ref x.2.1) (kvs.map fun p => kd p.1)) := by
  intro i H ⟨s1, s2⟩
  have hl : (kvs.map fun p => kd p.1).length = xs.length := by rw [List.length_map]; exact h2.length
  refine ⟨fun d hd => ?_, fun hle => ⟨s1, by rw [← hl]; exact hle⟩⟩
  have hi : i < xs.length := by rw [← hl]; exact (List.getElem?_eq_some_iff.mp hd).1
  refine ⟨⟨s1, hi⟩, fun x H' y => ?_⟩
  obtain ⟨rfl, e, he, rfl⟩ := y
  obtain ⟨v, hv, rd⟩ := s2.get hd
  rw [List.getElem?_map, he] at hv
  cases hv
  exact ⟨fun _ _ => Ex.refl _, rd⟩
/-! ### sets of contents, sorted -/
theorem pair_perm {α β : Type} {R : α → β → Prop} {ys xs : List α} (hp : ys.Perm xs) : ∀ {bs : List β}, Paired R xs bs → ∃ cs, cs.Perm bs ∧ Paired R ys cs := by
  induction hp with
  | nil => exact fun {bs} h => ⟨bs, List.Perm.refl _, h⟩
  | cons x _ ih =>
    intro bs h
    cases h with
    | cons h1 h2 =>
      obtain ⟨cs, p, q⟩ := ih h2
      exact ⟨_ :: cs, p.cons _, .cons h1 q⟩
  | swap x y l =>
    intro bs h
    cases h with
    | cons h1 h2 =>
      cases h2 with
      | cons h3 h4 => exact ⟨_, List.Perm.swap _ _ _, .cons h3 (.cons h1 h4)⟩
  | trans _ _ ih1 ih2 =>
    intro bs h
    obtain ⟨cs, p, q⟩ := ih2 h
    obtain ⟨es, p2, q2⟩ := ih1 q
    exact ⟨es, p2.trans p, q2⟩
theorem pair_pw {α β : Type} {R : α → β → Prop} {P : α → α → Prop} {Q : β → β → Prop} (hi : ∀ x y a b, R x a → R y b → P x y → Q a b) : ∀ {xs : List α} {bs : List β}, Paired R xs bs → xs.Pairwise P → bs.Pairwise Q
  | _, _, .nil, _ => List.Pairwise.nil
  | x :: xs, b :: bs, .cons h t, p => by
    obtain ⟨p1, p2⟩ := List.pairwise_cons.mp p
    refine List.pairwise_cons.mpr ⟨?_, pair_pw hi t p2⟩
    clear p p2
    induction t with
    | nil => exact fun _ hb => nomatch hb
    | cons h2 _ ih =>
      intro c hc
      rcases List.mem_cons.mp hc with rfl | hc
      · exact hi _ _ _ _ h h2 (p1 _ List.mem_cons_self)
      · exact ih (fun y hy => p1 y (List.mem_cons_of_mem _ hy)) c hc
/-- values of contents -/
abbrev CVs (H : Hp) : List V → List Con → Prop := Paired fun v x => Dt H v (encC x)
theorem cvs_dt {H : Hp} {vs : List V} {s : List Con} (h : CVs H vs s) : DtA H vs (s.map encC) := by
  induction h with
  | nil => exact .nil
  | cons h _ ih => exact .cons h ih
theorem DtA.cv {H : Hp} : ∀ {s : List Con} {vs : List V}, DtA H vs (s.map encC) → CVs H vs s
  | [], _, h => by cases h; exact .nil
  | x :: s, _, h => by
    rw [List.map_cons] at h
    cases h with
    | cons h1 h2 => exact .cons h1 (DtA.cv h2)
abbrev zI (x : Con) : List Int := x.map fun (n : Nat) => (n : Int)
theorem enc_zI (x : Con) : x.map dN = (zI x).map PyData.int := by
  unfold zI
  rw [List.map_map]
  rfl
theorem con_ints {H : Hp} {v : V} {x : Con} (h : Dt H v (encC x)) : ∃ t, v = .ref t ∧ H t = some (.tup ((zI x).map V.int)) := by
  obtain ⟨t, us, rfl, h1, h2⟩ := h.t
  have e : x.map dN = (zI x).map PyData.int := enc_zI x
  rw [e] at h2
  rw [DtA.ints h2] at h1
  exact ⟨t, rfl, h1⟩
theorem con_of {H : Hp} {t : Addr} {x : Con} (h : H t = some (.tup ((zI x).map V.int))) : Dt H (.ref t) (encC x) := by
  refine .tup h ?_
  rw [enc_zI x]
  exact DtA.of_ints _
/-- contents of d cells, small values -/
def CSm (d : Nat) (s : List Con) : Prop := ∀ x ∈ s, x.length = d ∧ ∀ n ∈ x, n < 64
theorem csm_bd {d : Nat} {s : List Con} (h : CSm d s) {x : Con} (hx : x ∈ s) : (zI x).length = d ∧ TS.Bd 64 (zI x) := by
  obtain ⟨h1, h2⟩ := h x hx
  refine ⟨by rw [List.length_map]; exact h1, fun m hm => ?_⟩
  obtain ⟨n, hn, rfl⟩ := List.mem_map.mp hm
  have := h2 n hn
  omega
theorem int_nat_map : ∀ {x y : Con}, zI x = zI y → x = y
  | [], [], _ => rfl
  | [], _ :: _, h => nomatch h
  | _ :: _, [], h => nomatch h
  | a :: x, b :: y, h => by
    have h1 : (a : Int) = (b : Int) := (List.cons.inj h).1
    have h2 := int_nat_map (List.cons.inj h).2
    have h3 : a = b := by omega
    rw [h2, h3]
theorem code_inj {d : Nat} : ∀ {xs ys : List Int}, xs.length = d → ys.length = d → TS.Bd 64 xs → TS.Bd 64 ys → TS.code 64 xs = TS.code 64 ys → xs = ys := by
  induction d with
  | zero =>
    intro xs ys h1 h2 _ _ _
    rw [List.length_eq_zero_iff.mp h1, List.length_eq_zero_iff.mp h2]
  | succ d ih =>
    intro xs ys h1 h2 b1 b2 e
    cases xs with
    | nil => cases h1
    | cons a r =>
      cases ys with
      | nil => cases h2
      | cons b q =>
        have l1 : r.length = d := Nat.succ.inj h1
        have l2 : q.length = d := Nat.succ.inj h2
        have hl : r.length = q.length := l1.trans l2.symm
        by_cases hab : a = b
        · subst hab
          have e' : TS.code 64 r = TS.code 64 q := by
            have h : a * 64 ^ r.length + TS.code 64 r = a * 64 ^ q.length + TS.code 64 q := e
            rw [hl] at h
            omega
          rw [ih l1 l2 b1.tail b2.tail e']
        · rcases Int.lt_or_lt_of_ne hab with z | z
          · have h := TS.code_lt (B := 64) hl b1.tail b2.tail z
            omega
          · have h := TS.code_lt (B := 64) hl.symm b2.tail b1.tail z
            omega
theorem codeC_inj {d : Nat} {s : List Con} (h : CSm d s) {x y : Con} (hx : x ∈ s) (hy : y ∈ s) (e : codeC x = codeC y) : x = y :=
  int_nat_map (code_inj (csm_bd h hx).1 (csm_bd h hy).1 (csm_bd h hx).2 (csm_bd h hy).2 e)
/-- ascending, of d existential -/
def rSortE (K : PySem.W.Frag) : List V → Hp → VK → Prop := fun vs H Q => ∃ d, 1 ≤ d ∧ rSortU K d 64 vs H Q
theorem cr_sortE {X : Cx} : CallR X (.builtin "sorted") (rSortE X.K) := fun pins s σ H vs us Q I r ⟨d, hd, h⟩ => cr_sortT hd pins s σ H vs us Q I r h
section
variable {P : Program} {w : World} {T : List (Addr × Str)} {po : Option PenD} {Hb : Hp} {gs : List (V × AV)} {env : List AV} {K : PySem.W.Frag} {ta tb te tl : TE} {σ : L2.St} {H : Hp} {Pl : List PyData → Prop}
/-- sorted(a new list of contents) -/
theorem el_sortC {Ps : List Con → Prop} (h : EvL T po Hb gs env te fun ds => ∃ s, ds = s.map encC ∧ Ps s) (hs : ∀ s, Ps s → s.length < 64 ∧ ∃ d, 1 ≤ d ∧ CSm d s) :
    EvL T po Hb gs env (tCB (rSortE K) (tCons te tNil)) (fun out => ∃ s r : List Con, Ps s ∧ out = r.map encC ∧ r.Perm s ∧ r.Pairwise (fun a b => codeC a ≤ codeC b)) := fun σ H F Q q => by
  refine h σ H F _ fun a vs ds H1 e1 F1 n1 h1 r1 ⟨s, es, p1⟩ => ?_
  subst es
  obtain ⟨h64, d, hd, hc⟩ := hs s p1
  have cv := r1.cv
  refine ⟨d, hd, a, vs, rfl, SqL.of h1, by rw [cv.length]; exact h64, fun x hx => ?_, fun ys p hp hpw hn => ?_⟩
  · obtain ⟨i, hi⟩ := List.mem_iff_getElem?.mp hx
    obtain ⟨y, hy, ry⟩ := r1.get' hi
    rw [List.getElem?_map] at hy
    obtain ⟨z, hz, rfl⟩ := Option.map_eq_some_iff.mp hy
    obtain ⟨t, rfl, ht⟩ := con_ints ry
    have hm : z ∈ s := List.mem_of_getElem? hz
    exact ⟨zI z, ⟨t, rfl, SqT.of ht⟩, (csm_bd hc hm).1, (csm_bd hc hm).2⟩
  · obtain ⟨r, pr, cr⟩ := pair_perm hp cv
    have e2 : Ex T po H1 (upd H1 p (.lst ys)) := Ex.new hn
    refine q _ _ _ _ (e1.trans e2) (F1.mono e2) (e1.dom p hn) upd_same ((cvs_dt cr).mono e2.tup) ⟨s, r, p1, rfl, pr, pair_pw (fun x y b c h1 h2 h3 => ?_) cr hpw⟩
    obtain ⟨t, rfl, ht⟩ := con_ints h1
    obtain ⟨t', rfl, ht'⟩ := con_ints h2
    exact h3 (zI b) (zI c) ⟨t, rfl, SqT.of ht⟩ ⟨t', rfl, SqT.of ht'⟩
/-- sorted(set(a list of contents)) -/
theorem el_sortSet {Ps : List Con → Prop} (h : EvK T po Hb gs env te fun ds => ∃ s, ds = s.map encC ∧ Ps s) (hs : ∀ s, Ps s → s.length < 64 ∧ ∃ d, 1 ≤ d ∧ CSm d s) :
    EvL T po Hb gs env (tCB (rSortedT K P w) (tCons (tCB (rSetOfT K P w) (tCons te tNil)) tNil)) (fun out => ∃ s r : List Con, Ps s ∧ out = r.map encC ∧ IsSet r s) := fun σ H F Q q => by
  refine h σ H F _ fun l vs ds H1 e1 F1 n1 h1 r1 ⟨s, es, p1⟩ => ?_
  subst es
  obtain ⟨h64, d, hd, hc⟩ := hs s p1
  have cv := r1.cv
  have at_ : ∀ {vs : List V} {s : List Con}, CVs H1 vs s → ∃ ks : List (Addr × List Int), vs = ks.map (fun p => V.ref p.1) ∧ ks.map (·.2) = s.map zI ∧ ∀ p ∈ ks, H1 p.1 = some (.tup (p.2.map V.int)) := by
    intro vs s h
    induction h with
    | nil => exact ⟨[], rfl, rfl, fun _ z => nomatch z⟩
    | @cons v x vs s h _ ih =>
      obtain ⟨ks, a1, a2, a3⟩ := ih
      obtain ⟨t, rfl, ht⟩ := con_ints h
      refine ⟨(t, zI x) :: ks, by rw [a1]; rfl, by rw [List.map_cons, a2]; rfl, fun p hp => ?_⟩
      rcases List.mem_cons.mp hp with rfl | hp
      · exact ht
      · exact a3 p hp
  obtain ⟨ks, k1, k2, k3⟩ := at_ cv
  have kl : ks.length = s.length := by
    have z := congrArg List.length k2
    rw [List.length_map, List.length_map] at z
    exact z
  have km : ∀ p ∈ ks, ∃ x ∈ s, p.2 = zI x := fun p hp => by
    have z : p.2 ∈ ks.map (·.2) := List.mem_map.mpr ⟨p, hp, rfl⟩
    rw [k2] at z
    obtain ⟨x, hx, e⟩ := List.mem_map.mp z
    exact ⟨x, hx, e.symm⟩
  refine ⟨l, ks, rfl, by rw [← k1]; exact SqL.of h1, fun p hp => SqT.of (k3 p hp), by rw [kl]; exact h64, fun a L hn hL1 hL2 => ?_⟩
  have e2 : Ex T po H1 (upd H1 a (SetTO P w a L)) := Ex.new hn
  refine ⟨a, L, d, 64, rfl, upd_same, fun p hp => SqT.of (e2.tup _ _ (k3 p (hL1 p hp))), hd, fun p hp => ?_, fun L' p pm nd few pw hp => ?_⟩
  · obtain ⟨x, hx, e⟩ := km p (hL1 p hp)
    rw [e]
    exact csm_bd hc hx
  · have e3 : Ex T po (upd H1 a (SetTO P w a L)) (upd (upd H1 a (SetTO P w a L)) p (.lst (L'.map fun q => V.ref q.1))) := Ex.new hp
    -- the contents that stand there
    have mk : ∀ (M : List (Addr × List Int)), (∀ q ∈ M, q ∈ ks) → ∃ r : List Con, M.map (·.2) = r.map zI ∧ (∀ x ∈ r, x ∈ s) ∧ DtA H1 (M.map fun q => V.ref q.1) (r.map encC) := by
      intro M
      induction M with
      | nil => exact fun _ => ⟨[], rfl, (fun _ z => nomatch z), .nil⟩
      | cons q M ih =>
        intro hM
        obtain ⟨r, r1, r2, r3⟩ := ih fun z hz => hM z (List.mem_cons_of_mem _ hz)
        have hq := hM q List.mem_cons_self
        obtain ⟨x, hx, e⟩ := km q hq
        have ht := k3 q hq
        rw [e] at ht
        refine ⟨x :: r, by rw [List.map_cons, List.map_cons, r1, e], fun y hy => ?_, .cons (con_of ht) r3⟩
        rcases List.mem_cons.mp hy with rfl | hy
        · exact hx
        · exact r2 y hy
    obtain ⟨r, r1, r2, r3⟩ := mk L' fun z hz => hL1 z (pm.mem_iff.mp hz)
    refine q _ _ _ _ ((e1.trans e2).trans e3) ((F1.mono e2).mono e3) (e1.dom p (e2.dom p hp)) upd_same ((r3.mono e2.tup).mono e3.tup) ⟨s, r, p1, rfl, ?_, fun x => ⟨fun hx => r2 x hx, fun hx => ?_⟩⟩
    · have pw2 : (L'.map (·.2)).Pairwise (fun a b => TS.code 64 a ≤ TS.code 64 b) := by rw [List.pairwise_map]; exact pw
      rw [r1, List.pairwise_map] at pw2
      have nd2 := nd
      rw [r1] at nd2
      have nd3 : r.Pairwise fun a b => zI a ≠ zI b := by rw [List.nodup_iff_pairwise_ne, List.pairwise_map] at nd2; exact nd2
      have both := pw2.and nd3
      refine List.Pairwise.imp_of_mem (fun {a b} ha hb hab => ?_) both
      have ne : codeC a ≠ codeC b := fun z => hab.2 (by rw [codeC_inj hc (r2 a ha) (r2 b hb) z])
      have le : codeC a ≤ codeC b := hab.1
      omega
    · have hz : zI x ∈ ks.map (·.2) := by rw [k2]; exact List.mem_map.mpr ⟨x, hx, rfl⟩
      obtain ⟨q, hq, eq⟩ := List.mem_map.mp hz
      have z1 := hL2 q hq
      rw [eq, ← (pm.map (·.2)).mem_iff, r1] at z1
      obtain ⟨y, hy, ey⟩ := List.mem_map.mp z1
      rw [← int_nat_map ey]
      exact hy
end
end K22
/-! KS: sets of contents, in plain lists; contents as keys. -/
namespace K22
open PySem L2

/-! ### ascending lists -/
theorem insC_mem {x : Con} : ∀ {l : List Con} {y : Con}, (∀ z ∈ l, codeC x = codeC z → x = z) → (y ∈ insC x l ↔ y = x ∨ y ∈ l)
  | [], y, _ => by simp [insC]
  | z :: l, y, h => by
    unfold insC
    split
    · simp
    · split
      · rename_i h1 h2
        have e := h z List.mem_cons_self h2
        constructor
        · exact fun hy => .inr hy
        · rintro (rfl | hy)
          · rw [e]; exact List.mem_cons_self
          · exact hy
      · have ih := insC_mem (x := x) (l := l) (y := y) fun w hw => h w (List.mem_cons_of_mem _ hw)
        rw [List.mem_cons, ih, List.mem_cons]
        constructor
        · rintro (h | h | h)
          · exact .inr (.inl h)
          · exact .inl h
          · exact .inr (.inr h)
        · rintro (h | h | h)
          · exact .inr (.inl h)
          · exact .inl h
          · exact .inr (.inr h)
theorem insC_sub {x : Con} : ∀ {l : List Con} {y : Con}, y ∈ insC x l → y = x ∨ y ∈ l
  | [], y, h => by simpa [insC] using h
  | z :: l, y, h => by
    unfold insC at h
    split at h
    · simpa using h
    · split at h
      · exact .inr h
      · rcases List.mem_cons.mp h with h | h
        · exact .inr (by rw [h]; exact List.mem_cons_self)
        · rcases insC_sub h with h | h
          · exact .inl h
          · exact .inr (List.mem_cons_of_mem _ h)
theorem insC_pw {x : Con} : ∀ {l : List Con}, l.Pairwise (fun a b => codeC a < codeC b) → (insC x l).Pairwise (fun a b => codeC a < codeC b)
  | [], _ => List.pairwise_singleton _ _
  | z :: l, h => by
    obtain ⟨h1, h2⟩ := List.pairwise_cons.mp h
    unfold insC
    split
    · rename_i q
      refine List.pairwise_cons.mpr ⟨fun y hy => ?_, h⟩
      rcases List.mem_cons.mp hy with rfl | hy
      · exact q
      · have := h1 y hy; omega
    · split
      · exact h
      · rename_i q1 q2
        refine List.pairwise_cons.mpr ⟨fun y hy => ?_, insC_pw h2⟩
        rcases insC_sub hy with rfl | hy
        · omega
        · exact h1 y hy
theorem norm_sub : ∀ {s : List Con} {x : Con}, x ∈ norm s → x ∈ s
  | [], _, h => h
  | y :: s, x, h => by
    rcases insC_sub (show x ∈ insC y (norm s) from h) with rfl | h
    · exact List.mem_cons_self
    · exact List.mem_cons_of_mem _ (norm_sub h)
theorem CSm.tail {d : Nat} {x : Con} {s : List Con} (h : CSm d (x :: s)) : CSm d s := fun y hy => h y (List.mem_cons_of_mem _ hy)
theorem CSm.sub {d : Nat} {s r : List Con} (h : CSm d s) (hs : ∀ x ∈ r, x ∈ s) : CSm d r := fun y hy => h y (hs y hy)
theorem norm_is {d : Nat} : ∀ {s : List Con}, CSm d s → IsSet (norm s) s
  | [], _ => ⟨List.Pairwise.nil, fun _ => Iff.rfl⟩
  | y :: s, h => by
    obtain ⟨h1, h2⟩ := norm_is h.tail
    refine ⟨insC_pw h1, fun x => ?_⟩
    show x ∈ insC y (norm s) ↔ _
    rw [insC_mem (fun z hz e => codeC_inj h List.mem_cons_self (List.mem_cons_of_mem _ (norm_sub hz)) e), h2 x, List.mem_cons]
/-- ascending lists of the same members are one -/
theorem asc_uniq : ∀ {r q : List Con}, r.Pairwise (fun a b => codeC a < codeC b) → q.Pairwise (fun a b => codeC a < codeC b) → (∀ x, x ∈ r ↔ x ∈ q) → r = q
  | [], [], _, _, _ => rfl
  | [], y :: q, _, _, h => absurd ((h y).mpr List.mem_cons_self) (by simp)
  | x :: r, [], _, _, h => absurd ((h x).mp List.mem_cons_self) (by simp)
  | x :: r, y :: q, h1, h2, h => by
    obtain ⟨a1, a2⟩ := List.pairwise_cons.mp h1
    obtain ⟨b1, b2⟩ := List.pairwise_cons.mp h2
    have e : x = y := by
      rcases List.mem_cons.mp ((h x).mp List.mem_cons_self) with e | m
      · exact e
      · rcases List.mem_cons.mp ((h y).mpr List.mem_cons_self) with e | m2
        · exact e.symm
        · have := b1 x m
          have := a1 y m2
          omega
    subst e
    have t : ∀ z, z ∈ r ↔ z ∈ q := fun z => by
      constructor
      · intro hz
        rcases List.mem_cons.mp ((h z).mp (List.mem_cons_of_mem _ hz)) with e | m
        · have := a1 z hz
          rw [e] at this
          omega
        · exact m
      · intro hz
        rcases List.mem_cons.mp ((h z).mpr (List.mem_cons_of_mem _ hz)) with e | m
        · have := b1 z hz
          rw [e] at this
          omega
        · exact m
    rw [asc_uniq a2 b2 t]
theorem IsSet.uniq {r q s : List Con} (h1 : IsSet r s) (h2 : IsSet q s) : r = q := asc_uniq h1.1 h2.1 fun x => (h1.2 x).trans (h2.2 x).symm
theorem IsSet.is {d : Nat} {r s : List Con} (h : IsSet r s) (hs : CSm d s) : r = norm s := h.uniq (norm_is hs)
/-- a set told by its members alone -/
theorem norm_of {d : Nat} {s t : List Con} (hs : CSm d s) (ht : CSm d t) (h : ∀ x, x ∈ s ↔ x ∈ t) : norm s = norm t := asc_uniq (norm_is hs).1 (norm_is ht).1 fun x => ((norm_is hs).2 x).trans ((h x).trans ((norm_is ht).2 x).symm)
theorem asc_nodup {r : List Con} (h : r.Pairwise (fun a b => codeC a < codeC b)) : r.Nodup := by
  refine List.Pairwise.imp (fun {a b} h e => ?_) h
  rw [e] at h
  omega
theorem norm_nodup {d : Nat} {s : List Con} (h : CSm d s) : (norm s).Nodup := asc_nodup (norm_is h).1
theorem norm_mem {d : Nat} {s : List Con} (h : CSm d s) (x : Con) : x ∈ norm s ↔ x ∈ s := (norm_is h).2 x
/-- sorted, each once -/
theorem List.Nodup.length_le_of_subset' {α : Type} [DecidableEq α] : ∀ {l s : List α}, l.Nodup → (∀ x ∈ l, x ∈ s) → l.length ≤ s.length
  | [], s, _, _ => Nat.zero_le _
  | a :: l, s, hn, hs => by
    obtain ⟨h1, h2⟩ := List.nodup_cons.mp hn
    have hm := hs a List.mem_cons_self
    have ih := List.Nodup.length_le_of_subset' (s := s.erase a) h2 fun x hx => (List.mem_erase_of_ne (fun e => by subst e; exact h1 hx)).mpr (hs x (List.mem_cons_of_mem _ hx))
    rw [List.length_erase_of_mem hm] at ih
    have := List.length_pos_of_mem hm
    rw [List.length_cons]
    omega
theorem perm_set {d : Nat} {r c s : List Con} (hs : CSm d s) (hp : r.Perm c) (hn : c.Nodup) (hm : ∀ x, x ∈ c ↔ x ∈ s) (hw : r.Pairwise (fun a b => codeC a ≤ codeC b)) : r = norm s := by
  refine IsSet.is (d := d) ⟨?_, fun x => (hp.mem_iff).trans (hm x)⟩ hs
  have nd : r.Nodup := hp.nodup_iff.mpr hn
  refine List.Pairwise.imp_of_mem (fun {a b} ha hb hab => ?_) (hw.and nd)
  have ne : codeC a ≠ codeC b := fun z => hab.2 (codeC_inj hs ((hm a).mp (hp.mem_iff.mp ha)) ((hm b).mp (hp.mem_iff.mp hb)) z)
  have := hab.1
  omega

/-! ### contents as keys -/
def cK (x : Con) : NestedKey := .tup (x.map fun (n : Nat) => .num (n : Int))
theorem kds_nums : ∀ x : Con, kds (x.map fun (n : Nat) => NestedKey.num (n : Int)) = x.map dN
  | [] => rfl
  | n :: x => by
    show kd (.num (n : Int)) :: kds (x.map fun (n : Nat) => NestedKey.num (n : Int)) = _
    rw [kds_nums x]
    rfl
theorem kd_cK (x : Con) : kd (cK x) = encC x := by
  unfold cK
  show PyData.tuple (kds _) = _
  rw [kds_nums]
theorem dep_nums : ∀ x : Con, NestedKey.depthAll (x.map fun (n : Nat) => NestedKey.num (n : Int)) = 0
  | [] => rfl
  | n :: x => by
    show max (NestedKey.depth (.num (n : Int))) (NestedKey.depthAll (x.map fun (n : Nat) => NestedKey.num (n : Int))) = 0
    rw [dep_nums x]
    rfl
theorem dep_cK (x : Con) : (cK x).depth = 1 := by
  unfold cK
  show NestedKey.depthAll _ + 1 = 1
  rw [dep_nums]
theorem cK_inj : ∀ {x y : Con}, cK x = cK y → x = y := by
  have go : ∀ {x y : Con}, (x.map fun (n : Nat) => NestedKey.num (n : Int)) = (y.map fun (n : Nat) => NestedKey.num (n : Int)) → x = y := by
    intro x
    induction x with
    | nil => intro y h; cases y with
      | nil => rfl
      | cons _ _ => cases h
    | cons a x ih =>
      intro y h
      cases y with
      | nil => cases h
      | cons b y =>
        rw [List.map_cons, List.map_cons] at h
        injection h with h1 h2
        injection h1 with h1
        rw [ih h2, Int.ofNat.inj h1]
  intro x y h
  unfold cK at h
  injection h with h
  exact go h
mutual
/-- the key of a datum -/
def nk : PyData → NestedKey
  | .int i => .num i
  | .str x => .text x
  | .tuple ds => .tup (nks ds)
  | _ => .none
def nks : List PyData → List NestedKey
  | [] => []
  | d :: r => nk d :: nks r
end
theorem nks_dN : ∀ x : Con, nks (x.map dN) = x.map fun (n : Nat) => NestedKey.num (n : Int)
  | [] => by rfl
  | n :: x => by
    rw [List.map_cons, List.map_cons, nks, nks_dN x]
    rfl
theorem nk_encC (x : Con) : nk (encC x) = cK x := by
  show nk (.tuple (x.map dN)) = _
  rw [nk, nks_dN]
  rfl
theorem valN_nil (k : NestedKey) : valN [] k = none := rfl
theorem valN_cons (p : NestedKey × PyData) (t : NT) (k : NestedKey) : valN (p :: t) k = if p.1 = k then some p.2 else valN t k := by
  unfold valN
  rw [List.find?_cons]
  by_cases h : p.1 = k
  · simp [h]
  · simp [h]
theorem valN_conK {c : PyData} {x : Con} : ∀ {l : List Con}, valN (l.map fun y => (cK y, c)) (cK x) = if x ∈ l then some c else none
  | [] => by simp [valN]
  | y :: l => by
    rw [List.map_cons, valN_cons, valN_conK (l := l)]
    by_cases h : cK y = cK x
    · rw [if_pos h, cK_inj h, if_pos List.mem_cons_self]
    · rw [if_neg h]
      by_cases h2 : x ∈ l
      · rw [if_pos h2, if_pos (List.mem_cons_of_mem _ h2)]
      · rw [if_neg h2, if_neg (fun z => (List.mem_cons.mp z).elim (fun e => h (by rw [e])) h2)]
theorem setN_conK {c : PyData} {x : Con} {l : List Con} : setN (l.map fun y => (cK y, c)) (cK x) c = if x ∈ l then l.map (fun y => (cK y, c)) else (l ++ [x]).map fun y => (cK y, c) := by
  unfold setN
  rw [valN_conK]
  by_cases h : x ∈ l
  · rw [if_pos h, if_pos h, if_pos (show (some c).isSome = true from rfl), List.map_map]
    refine List.map_congr_left fun y _ => ?_
    show (if cK y = cK x then (cK y, c) else (cK y, c)) = _
    rw [ite_self]
  · rw [if_neg h, if_neg h, if_neg (by simp), List.map_append]
    rfl
/-- the dict's keys: each content once -/
theorem build_con (c : PyData) : ∀ (s : List Con), ∃ l : List Con, buildN nk c (s.map encC) = l.map (fun y => (cK y, c)) ∧ l.Nodup ∧ ∀ x, x ∈ l ↔ x ∈ s := by
  have go : ∀ (s : List Con) (l : List Con), l.Nodup → ∃ r : List Con, (s.map encC).foldl (fun t d => setN t (nk d) c) (l.map fun y => (cK y, c)) = r.map (fun y => (cK y, c)) ∧ r.Nodup ∧ ∀ x, x ∈ r ↔ x ∈ l ∨ x ∈ s := by
    intro s
    induction s with
    | nil => exact fun l hn => ⟨l, rfl, hn, fun x => by simp⟩
    | cons y s ih =>
      intro l hn
      rw [List.map_cons, List.foldl_cons, nk_encC, setN_conK]
      by_cases h : y ∈ l
      · rw [if_pos h]
        obtain ⟨r, r1, r2, r3⟩ := ih l hn
        refine ⟨r, r1, r2, fun x => ?_⟩
        rw [r3, List.mem_cons]
        constructor
        · rintro (h | h)
          · exact .inl h
          · exact .inr (.inr h)
        · rintro (h | rfl | h)
          · exact .inl h
          · exact .inl h
          · exact .inr h
      · rw [if_neg h]
        have hn2 : (l ++ [y]).Nodup := by
          rw [List.nodup_append]
          refine ⟨hn, List.pairwise_singleton _ y, fun a ha b hb e => ?_⟩
          rw [List.mem_singleton.mp hb] at e
          rw [e] at ha
          exact h ha
        obtain ⟨r, r1, r2, r3⟩ := ih (l ++ [y]) hn2
        refine ⟨r, r1, r2, fun x => ?_⟩
        rw [r3, List.mem_append, List.mem_singleton, List.mem_cons]
        constructor
        · rintro ((h | h) | h)
          · exact .inl h
          · exact .inr (.inl h)
          · exact .inr (.inr h)
        · rintro (h | h | h)
          · exact .inl (.inl h)
          · exact .inl (.inr h)
          · exact .inr h
  intro s
  obtain ⟨r, r1, r2, r3⟩ := go s [] List.nodup_nil
  exact ⟨r, r1, r2, fun x => by rw [r3]; simp⟩
end K22
/-! KD: the defs that answer and do. -/
namespace K22
open PySem PySem.Spec L2 LamX
def topS (i : Nat) : Stmt := PySem.Challenge.pw_roundlooks_k22_whole_ways_lived.main.body.getD i (.Pass ⟨0, 0, 0, 0⟩)
/-- a def of the text as it stands: its body, how it binds, the module's name -/
structure Df (K : PySem.W.Frag) (mg : Str → Option Value) (name : Str) (st : Stmt) (f : Addr) (fd : FuncData) (ps : List Str) : Prop where
  F : Fun K name name st f fd
  b : Binds K fd ps []
  m : mg name = some (.ref f)
/-- .. that keeps a promise -/
def Cal (P : Program) (w : World) (K : PySem.W.Frag) (mg : Str → Option Value) (base : Heap) (name : Str) (st : Stmt) (ps : List Str) (k : Nat) (sp : Sp) : Prop :=
  ∃ (f : Addr) (fd : FuncData), Df K mg name st f fd ps ∧ FnOk P w K mg base CX0 k f fd ps sp
/-- built-in names that the module leaves alone -/
structure Bi (mg : Str → Option Value) : Prop where
  len : mg "len" = none
  range : mg "range" = none
  tuple : mg "tuple" = none
  list : mg "list" = none
  int : mg "int" = none
  sorted : mg "sorted" = none
  set : mg "set" = none
  dict : mg "dict" = none
  enumerate : mg "enumerate" = none
  zip : mg "zip" = none
  max : mg "max" = none
  min : mg "min" = none
  sum : mg "sum" = none
theorem ev_eqStrB {T : List (Addr × Str)} {po : Option PenD} {Hb : Hp} {gs : List (V × AV)} {env : List AV} {ta tb : TE} {i j : Str} {b : Bool} (ha : EvD T po Hb gs env ta (.str i)) (hb : EvD T po Hb gs env tb (.str j)) (h : decide (i = j) = b) : EvD T po Hb gs env (tOp rEq ta tb) (.bool b) := h ▸ ev_eqStr ha hb

abbrev s_asked : Stmt := topS 2
theorem sc_asked : FnScope ["house", "question", "content", "node", "cells"] ["house", "question", "content"] (defScope s_asked) := ⟨rfl, rfl, rfl, by decide +kernel, rfl, by decide +kernel, by decide +kernel⟩
abbrev s_verdict : Stmt := topS 3
theorem sc_verdict : FnScope ["house", "question", "some", "first", "content"] ["house", "question", "some"] (defScope s_verdict) := ⟨rfl, rfl, rfl, by decide +kernel, rfl, by decide +kernel, by decide +kernel⟩
abbrev s_with_value : Stmt := topS 5
theorem sc_with_value : FnScope ["content", "cell", "value"] ["content", "cell", "value"] (defScope s_with_value) := ⟨rfl, rfl, rfl, by decide +kernel, rfl, by decide +kernel, by decide +kernel⟩
abbrev s_behind_step : Stmt := topS 6
theorem sc_behind_step : FnScope ["sizes", "step", "content", "word", "cell", "what", "behind"] ["sizes", "step", "content"] (defScope s_behind_step) := ⟨rfl, rfl, rfl, by decide +kernel, rfl, by decide +kernel, by decide +kernel⟩
abbrev s_carried : Stmt := topS 7
theorem sc_carried : FnScope ["house", "deed", "content", "step"] ["house", "deed", "content"] (defScope s_carried) := ⟨rfl, rfl, rfl, by decide +kernel, rfl, by decide +kernel, by decide +kernel⟩
def isLook : Node → Bool
  | .look _ _ => true
  | _ => false
/-- where the walk to an answer stands -/
def AInv (h : House) (q : Nat) (x : Con) (m i : Nat) (n : Node) (z : List Nat) : Prop := h.nodes[i]? = some n ∧ h.nodes.length ≤ m + i ∧ ansFrom h.nodes x m i = ansC h q x ∧ z.length + m ≤ h.nodes.length
section
variable {P : Program} {w : World} {K : PySem.W.Frag} {mg : Str → Option Value} {base : Heap} {T : List (Addr × Str)}
/-! ### asked -/
def spAsked (T : List (Addr × Str)) : Sp := SpD T (α := House × Nat × Con) (fun a => [.d (encH a.1), .d (dN a.2.1), .d (encC a.2.2)]) (fun a => HouseOk a.1 ∧ a.2.1 < a.1.qs.length ∧ ConOk a.1.sizes a.2.2)
  (fun a d => ∃ z : List Nat, d = .tuple [dNs z, dN (ansC a.1 a.2.1 a.2.2)])
theorem ok_asked {f : Addr} {fd : FuncData} (D : Df K mg "asked" s_asked f fd ["house", "question", "content"]) : Cal P w K mg base "asked" s_asked ["house", "question", "content"] 1 (spAsked T) := by
  refine ⟨f, fd, D, D.F.ok sc_asked (fun vs H Q E h => ?_) (fun cdv A outer s H vs Q E hr h => ?_)⟩
  · obtain ⟨a, h1, _⟩ := h
    exact h1.len
  · obtain ⟨⟨h, q, x⟩, ⟨ho, hq, hx⟩, F0, k⟩ := SpD.ent (N := ["house", "question", "content", "node", "cells"]) h (fun _ => Nat.le_of_ble_eq_true rfl)
    dsimp only at *
    refine ⟨_, (pss_cons (ps_par (i := 3) (j := 4) rfl sc_asked.nd rfl rfl (by decide) rfl rfl (pa_cons (pe_ix ix_tup (pe_ix ix_tup (pv 0) pe_int (fun _ _ => rfl)) (pe_ix ix_tup (pe_ix ix_tup (pv 0) pe_int (fun _ _ => rfl)) (pv 1) (fun _ _ => rfl)) (fun _ _ => rfl)) (pa_cons (pe_tup pa_nil) pa_nil)) (by rfl))
      (pss_cons (ps_while PassesOwn.never (pt_cmpR op_eq (pe_ix ix_tup (pv 3) pe_int (fun _ _ => rfl)) pe_str (nomark _)) (pss_cons (ps_set (i := 4) sc_asked.nd rfl (Or.inl rfl) (pe_op op_catA (pv 4) (pe_tup (pa_cons (pe_ix ix_tup (pv 3) pe_int (fun _ _ => rfl)) pa_nil))))
      (pss_one (ps_set (i := 3) sc_asked.nd rfl (Or.inl rfl) (pe_ix ix_tup (pe_ix ix_tup (pv 0) pe_int (fun _ _ => rfl)) (pe_ix ix_tup (pe_ix ix_tup (pv 3) pe_int (fun _ _ => rfl)) (pe_ix ix_tup (pv 2) (pe_ix ix_tup (pv 3) pe_int (fun _ _ => rfl)) (fun _ _ => rfl)) (fun _ _ => rfl)) (fun _ _ => rfl))))))
      (pss_one (ps_ret (pe_tup (pa_cons (pv 4) (pa_cons (pe_ix ix_tup (pv 3) pe_int (fun _ _ => rfl)) pa_nil))))))), ?_⟩
    have hq1 : h.qs[q]? = some (h.qs.getD q 0) := at_sz hq 0
    have hi0 : h.qs.getD q 0 < h.nodes.length := ho.qs _ (List.mem_of_getElem? hq1)
    have hn1 : h.nodes[h.qs.getD q 0]? = some h.nodes[h.qs.getD q 0] := List.getElem?_eq_getElem hi0
    refine sq (st_par F0 (ev_ix (ev_ix (ev_v rfl) ev_i rfl) (ev_ix (ev_ix (ev_v rfl) ev_i rfl) (ev_v rfl) (at_N hq1)) (at_Node hn1)).ev ((ev_tup eu_nil).ev.imp fun y e x _ => e) fun v0 w0 x0 y0 H1 e1 F1 p1 p2 => ?_)
    subst p1
    subst p2
    refine sq (st_while (fun m env' => ∃ i n z, env' = [.d (encH h), .d (dN q), .d (encC x), .d (encNode n), .d (dNs z)] ∧ AInv h q x m i n z)
      (fun m env' b => ∃ i n z, env' = [.d (encH h), .d (dN q), .d (encC x), .d (encNode n), .d (dNs z)] ∧ AInv h q x m i n z ∧ b = isLook n) F1 (m0 := h.nodes.length) ⟨_, _, [], rfl, hn1, Nat.le_add_right _ _, rfl, Nat.le_of_eq (Nat.zero_add _)⟩ (fun m env' hI => ?_) (fun m env' σ' H' F' _ hP => ?_) (fun m env' σ' H' F' _ hP => ?_))
    · obtain ⟨i, n, z, rfl, hA⟩ := hI
      cases n with
      | ans a => exact (et (ev_eqStrB (b := false) (ev_ix (ev_v rfl) ev_i rfl) ev_s (by decide +kernel))).imp fun b e => ⟨i, _, z, rfl, hA, e⟩
      | look c goals => exact (et (ev_eqStrB (b := true) (ev_ix (ev_v rfl) ev_i rfl) ev_s (by decide +kernel))).imp fun b e => ⟨i, _, z, rfl, hA, e⟩
    · obtain ⟨i, n, z, rfl, ⟨hn, hm, ha, hz⟩, hl⟩ := hP
      cases n with
      | ans a => cases hl
      | look c goals =>
        obtain ⟨sz, hs1, hg1, hg2⟩ := ho.nodes i _ hn
        have hil : i < h.nodes.length := (List.getElem?_eq_some_iff.mp hn).1
        have hcl : c < x.length := by rw [hx.1]; exact (List.getElem?_eq_some_iff.mp hs1).1
        have hxc := at_sz hcl 0
        have hv := hx.2 c _ sz hxc hs1
        have hgl : x.getD c 0 < goals.length := by rw [hg1]; exact hv
        have hgg := at_sz hgl 0
        obtain ⟨g1, g2⟩ := hg2 _ (List.mem_of_getElem? hgg)
        have hnn : h.nodes[goals.getD (x.getD c 0) 0]? = some h.nodes[goals.getD (x.getD c 0) 0] := List.getElem?_eq_getElem g2
        obtain ⟨m, rfl⟩ : ∃ m', m = m' + 1 := ⟨m - 1, by omega⟩
        refine sq (st_set F' (ev_cat (ev_v rfl) (ev_tup (eu_c (ev_ix (ev_v rfl) ev_i rfl) eu_nil)) ?_).ev fun v1 d1 H2 e2 F2 p2 => ?_)
        · have := ho.nmost
          rw [List.length_map]
          show z.length + 1 ≤ _
          omega
        · subst p2
          refine st_set F2 (ev_ix (ev_ix (ev_v rfl) ev_i rfl) (ev_ix (ev_ix (ev_v rfl) ev_i rfl) (ev_ix (ev_v rfl) (ev_ix (ev_v rfl) ev_i rfl) (at_N hxc)) (at_N hgg)) (at_Node hnn)).ev fun v3 d3 H3 e3 F3 p3 => ?_
          subst p3
          refine ⟨m, _, Nat.lt_succ_self m, F3, goals.getD (x.getD c 0) 0, _, z ++ [c], ?_, hnn, by omega, ?_, ?_⟩
          · rw [dNs_snoc]
            rfl
          · rw [← ha]
            show _ = ansFrom h.nodes x (m + 1) i
            rw [ansFrom, getD_of hn]
          · rw [List.length_append]
            show z.length + 1 + m ≤ _
            omega
    · obtain ⟨i, n, z, rfl, ⟨hn, hm, ha, hz⟩, hl⟩ := hP
      cases n with
      | look c goals => cases hl
      | ans a =>
        have hil : i < h.nodes.length := (List.getElem?_eq_some_iff.mp hn).1
        obtain ⟨m, rfl⟩ : ∃ m', m = m' + 1 := ⟨m - 1, by omega⟩
        refine st_ret F' (ev_tup (eu_c (ev_v rfl) (eu_c (ev_ix (ev_v rfl) ev_i rfl) eu_nil))).ev fun v d H3 e3 r3 p3 => k v d H3 e3 r3 ⟨z, ?_⟩
        rw [p3, ← ha, ansFrom, getD_of hn]
/-! ### verdict -/
theorem cut_to {xs : List PyData} {c : Nat} (h : c ≤ xs.length) : cutD xs none (some (c : Int)) = xs.take c := by
  unfold cutD
  rw [HT.sIx_none, HT.sIx_nat, Nat.min_eq_left h]
  rfl
theorem cut_from {xs : List PyData} {c : Nat} (h : c ≤ xs.length) : cutD xs (some (c : Int)) none = xs.drop c := by
  unfold cutD
  rw [HT.sIx_none, HT.sIx_nat, Nat.min_eq_left h]
  exact List.take_of_length_le (by rw [List.length_drop]; exact Nat.le_refl _)
theorem cut_1 (d : PyData) (ds : List PyData) : cutD (d :: ds) (some 1) none = ds := cut_from (xs := d :: ds) (c := 1) (Nat.succ_le_succ (Nat.zero_le _))
theorem and_none {d : PyData} : (match d with | .none => true | _ => false) = true ↔ d = .none := by cases d <;> simp
def optN : Option Nat → PyData
  | none => .none
  | some n => dN n
def spVerdict (T : List (Addr × Str)) : Sp := SpD T (α := House × Nat × List Con) (fun a => [.d (encH a.1), .d (dN a.2.1), .d (encS a.2.2)]) (fun a => HouseOk a.1 ∧ a.2.1 < a.1.qs.length ∧ SetOk a.1 a.2.2)
  (fun a d => d = optN (verdictC a.1 a.2.1 a.2.2))
theorem ok_verdict {f : Addr} {fd : FuncData} (D : Df K mg "verdict" s_verdict f fd ["house", "question", "some"]) (C1 : Cal P w K mg base "asked" s_asked ["house", "question", "content"] 1 (spAsked T)) : Cal P w K mg base "verdict" s_verdict ["house", "question", "some"] 2 (spVerdict T) := by
  obtain ⟨fa, fda, D_asked, G_asked⟩ := C1
  refine ⟨f, fd, D, D.F.ok sc_verdict (fun vs H Q E h => ?_) (fun cdv A outer s H vs Q E hr h => ?_)⟩
  · obtain ⟨a, h1, _⟩ := h
    exact h1.len
  · obtain ⟨⟨h, q, ss⟩, ⟨ho, hq, hs⟩, F0, k⟩ := SpD.ent (N := ["house", "question", "some", "first", "content"]) h (fun _ => Nat.le_of_ble_eq_true rfl)
    dsimp only at *
    refine ⟨_, (pss_cons (ps_set (i := 3) sc_verdict.nd rfl (Or.inl rfl) (pe_ix ix_tup (pe_call G_asked (hr.mono (by omega)) (by rfl) D_asked.m D_asked.F.kp D_asked.b .nil pass0 (pa_cons (pv 0) (pa_cons (pv 1) (pa_cons (pe_ix ix_tup (pv 2) pe_int (fun _ _ => rfl)) pa_nil)))) pe_int (fun _ _ => rfl)))
      (pss_cons (ps_for PassesOwn.never rfl (pi_tup (pe_slice sl_tupA (pv 2) (po_some pe_int) po_none)) (pg_name (i := 4) sc_verdict.nd rfl (Or.inl rfl)) (pss_one (ps_if (pt_cmpR op_ne (pe_ix ix_tup (pe_call G_asked (hr.mono (by omega)) (by rfl) D_asked.m D_asked.F.kp D_asked.b .nil pass0 (pa_cons (pv 0) (pa_cons (pv 1) (pa_cons (pv 4) pa_nil)))) pe_int (fun _ _ => rfl)) (pv 3) (nomark _)) (pss_one (ps_ret pe_non)) pss_nil)))
      (pss_one (ps_ret (pv 3))))), ?_⟩
    obtain ⟨x, r, rfl⟩ : ∃ x r, ss = x :: r := by
      cases ss with
      | nil => exact absurd rfl hs.ne
      | cons x r => exact ⟨x, r, rfl⟩
    have ask : ∀ {gs : List (V × AV)} {env : List AV} {tc : TE} {y : Con}, env[0]? = some (.d (encH h)) → env[1]? = some (.d (dN q)) → y ∈ x :: r → EvD T none H gs env tc (encC y) →
        EvD T none H gs env (tOp (rIxT K) (tCall (spAsked T) [] E0 (tCons (tVar 0) (tCons (tVar 1) (tCons tc tNil)))) (tC (.int 1))) (dN (ansC h q y)) := fun {gs env tc y} e0 e1 hy hc => by
      refine Ev.one fun σ H1 F1 Q1 q1 => ?_
      refine ev_c (args := fun a : House × Nat × Con => [.d (encH a.1), .d (dN a.2.1), .d (encC a.2.2)]) (h, q, y) (ea_c (ev_v e0) (ea_c (ev_v e1) (ea_c hc ea_nil))) ⟨ho, hq, hs.all y hy⟩ σ H1 F1 _ fun v d H2 e2 F2 r2 ⟨z, p2⟩ => ?_
      subst p2
      obtain ⟨a, xs, rfl, h1, h2⟩ := r2.t
      obtain ⟨u, h3, h4⟩ := h2.at (i := 1) rfl
      exact ⟨a, xs, 1, u, rfl, rfl, SqT.of h1, h3, q1 u _ H2 e2 F2 h4 rfl⟩
    refine sq (st_set F0 (ask rfl rfl List.mem_cons_self (ev_ix (ev_v rfl) ev_i (at_C (xs := x :: r) (i := 0) rfl))).ev fun v1 d1 H1 e1 F1 p1 => ?_)
    subst p1
    refine sq (st_forT (ds := r.map encC) (fun n env' σ' H' => (∃ a, env' = [.d (encH h), .d (dN q), .d (encS (x :: r)), .d (dN (ansC h q x)), a]) ∧ ∀ y ∈ r.take n, ansC h q y = ansC h q x) F1 ((ev_slT (ev_v rfl) (eo_some ev_i) eo_none).to (congrArg PyData.tuple (cut_1 (encC x) (r.map encC)))) (fun H2 e2 => ⟨⟨_, rfl⟩, fun y hy => nomatch hy⟩) (fun v0 n d v env' σ' H' hd F' hI hv => ?_) (fun env' σ' H' F' hI => ?_))
    · obtain ⟨⟨a, rfl⟩, hI⟩ := hI
      rw [List.getElem?_map] at hd
      obtain ⟨y, hy, rfl⟩ := Option.map_eq_some_iff.mp hd
      have hm : y ∈ x :: r := List.mem_cons_of_mem _ (List.mem_of_getElem? hy)
      refine gN F' hv fun F2 => ?_
      refine st_if (Pb := fun b => b = !decide ((ansC h q y : Int) = (ansC h q x : Int))) F2 (et (ev_neI (ask rfl rfl hm (ev_v rfl)) (ev_v rfl))) (fun H3 e3 F3 p3 => ?_) (fun H3 e3 F3 p3 => ?_)
      · have hne : ansC h q y ≠ ansC h q x := fun e => by simp [e] at p3
        refine st_ret F3 ev_n.ev fun v d H4 e4 r4 p4 => k v d H4 e4 r4 ?_
        rw [p4]
        show _ = optN (if _ then _ else _)
        rw [if_neg]
        · rfl
        · intro z
          rw [List.all_eq_true] at z
          exact hne (of_decide_eq_true (z y (List.mem_of_getElem? hy)))
      · refine ⟨_, F3, ⟨_, rfl⟩, fun z hz => ?_⟩
        rw [take_snoc hy] at hz
        rcases List.mem_append.mp hz with hz | hz
        · exact hI z hz
        · rw [List.mem_singleton.mp hz]
          simp at p3
          omega
    · obtain ⟨⟨a, rfl⟩, hI⟩ := hI
      rw [List.length_map, List.take_length] at hI
      refine st_ret F' (ev_v rfl).ev fun v d H4 e4 r4 p4 => k v d H4 e4 r4 ?_
      rw [p4]
      show _ = optN (if _ then _ else _)
      rw [if_pos]
      · rfl
      · rw [List.all_eq_true]
        exact fun y hy => decide_eq_true (hI y hy)
/-! ### with_value -/
theorem set_cut {α : Type} : ∀ (x : List α) (c : Nat) (v : α), c < x.length → x.take c ++ [v] ++ x.drop (c + 1) = x.set c v
  | a :: r, 0, v, _ => rfl
  | a :: r, c + 1, v, h => by
    show a :: (r.take c ++ [v] ++ r.drop (c + 1)) = a :: r.set c v
    rw [set_cut r c v (Nat.lt_of_succ_lt_succ h)]
def spWith (T : List (Addr × Str)) : Sp := SpD T (α := Con × Nat × Nat) (fun a => [.d (encC a.1), .d (dN a.2.1), .d (dN a.2.2)]) (fun a => a.2.1 < a.1.length ∧ a.1.length ≤ 1000)
  (fun a d => d = encC (a.1.set a.2.1 a.2.2))
theorem set_data {x : Con} {c v : Nat} (hc : c < x.length) : PyData.tuple (cutD (x.map dN) none (some (c : Int)) ++ [dN v] ++ cutD (x.map dN) (some ((c : Int) + 1)) none) = encC (x.set c v) := by
  have e1 : ((c : Int) + 1) = ((c + 1 : Nat) : Int) := by omega
  rw [e1, cut_to (by rw [List.length_map]; omega), cut_from (by rw [List.length_map]; omega), set_cut _ _ _ (by rw [List.length_map]; exact hc)]
  show _ = PyData.tuple ((x.set c v).map dN)
  rw [List.map_set]
theorem ok_with {f : Addr} {fd : FuncData} (D : Df K mg "with_value" s_with_value f fd ["content", "cell", "value"]) : Cal P w K mg base "with_value" s_with_value ["content", "cell", "value"] 1 (spWith T) := by
  refine ⟨f, fd, D, D.F.ok sc_with_value (fun vs H Q E h => ?_) (fun cdv A outer s H vs Q E hr h => ?_)⟩
  · obtain ⟨a, h1, _⟩ := h
    exact h1.len
  · obtain ⟨⟨x, c, v⟩, ⟨hc, hl⟩, F0, k⟩ := SpD.ent (N := ["content", "cell", "value"]) h (fun _ => Nat.le_of_ble_eq_true rfl)
    dsimp only at *
    refine ⟨_, (pss_one (ps_ret (pe_op op_catA (pe_op op_catA (pe_slice sl_tupA (pv 0) po_none (po_some (pv 1))) (pe_tup (pa_cons (pv 2) pa_nil))) (pe_slice sl_tupA (pv 0) (po_some (pe_op op_add (pv 1) pe_int)) po_none)))), ?_⟩
    have l1 : ∀ lo hi, (cutD (x.map dN) lo hi).length ≤ 1000 := fun lo hi => by
      unfold cutD
      rw [List.length_take, List.length_drop, List.length_map]
      show _ ≤ 1000
      have : x.length ≤ 1000 := hl
      omega
    refine st_ret F0 (ev_cat (ev_cat (ev_slT (ev_v rfl) eo_none (eo_some (ev_v rfl))) (ev_tup (eu_c (ev_v rfl) eu_nil)) ?_) (ev_slT (ev_v rfl) (eo_some (ev_add (ev_v rfl) ev_i)) eo_none) ?_).ev fun v d H3 e3 r3 p3 => k v d H3 e3 r3 ?_
    · have := l1 none (some (c : Int))
      show _ + 1 ≤ _
      omega
    · rw [List.length_append]
      have := l1 none (some (c : Int))
      have := l1 (some ((c : Int) + 1)) none
      show _ + 1 + _ ≤ _
      omega
    · rw [p3]
      exact set_data hc
theorem ev_with {po : Option PenD} {Hb : Hp} {gs : List (V × AV)} {env : List AV} {tx tc tv : TE} {x : Con} {c v : Nat} (h1 : EvD T po Hb gs env tx (encC x)) (h2 : EvD T po Hb gs env tc (dN c)) (h3 : EvD T po Hb gs env tv (dN v)) (hc : c < x.length) (hl : x.length ≤ 1000) :
    EvD T po Hb gs env (tCall (spWith T) [] E0 (tCons tx (tCons tc (tCons tv tNil)))) (encC (x.set c v)) :=
  Ev.one (ev_c (args := fun a : Con × Nat × Nat => [.d (encC a.1), .d (dN a.2.1), .d (dN a.2.2)]) (x, c, v) (ea_c h1 (ea_c h2 (ea_c h3 ea_nil))) ⟨hc, hl⟩)
theorem fn_none {k : Nat} {f : Addr} {fd : FuncData} {ps : List Str} {sp : Sp} (no : ∀ vs H Q E, ¬ sp vs H Q E) : FnOk P w K mg base CX0 k f fd ps sp :=
  ⟨fun vs H Q E h => absurd h (no vs H Q E), fun A outer s H args us vs Q E _ _ _ _ h => absurd h (no vs H Q E)⟩
/-! ### behind_step -/
def spStep (T : List (Addr × Str)) (n : Nat) : Sp := SpD T (α := List Nat × Step × Con) (fun a => [.d (dNs a.1), .d (encStep a.2.1), .d (encC a.2.2)]) (fun a => StepOk a.1 a.2.1 ∧ ConOk a.1 a.2.2 ∧ a.1.length ≤ 1000 ∧ (∀ z ∈ a.1, 2 ≤ z) ∧ a.2.1.dep ≤ n)
  (fun a d => d = encC (stepC a.1 a.2.1 a.2.2))
theorem ok_step {f : Addr} {fd : FuncData} (D_behind_step : Df K mg "behind_step" s_behind_step f fd ["sizes", "step", "content"]) (C1 : Cal P w K mg base "with_value" s_with_value ["content", "cell", "value"] 1 (spWith T)) : ∀ n, FnOk P w K mg base CX0 (n + 2) f fd ["sizes", "step", "content"] (spStep T n)
  | 0 => fn_none fun vs H Q E h => by
    obtain ⟨⟨sz, s, x⟩, _, ⟨_, _, _, _, h⟩, _⟩ := h
    have : 1 ≤ s.dep := by cases s <;> simp [Step.dep]
    simp only at h
    omega
  | n + 1 => by
    have G_behind_step := ok_step D_behind_step C1 n
    obtain ⟨fw, fdw, D_with_value, G_with_value⟩ := C1
    refine D_behind_step.F.ok sc_behind_step (fun vs H Q E h => ?_) (fun cdv A outer s H vs Q E hr h => ?_)
    · obtain ⟨a, h1, _⟩ := h
      exact h1.len
    · obtain ⟨⟨sz, st, x⟩, ⟨hs, hx, hl, h2, hd⟩, F0, k⟩ := SpD.ent (N := ["sizes", "step", "content", "word", "cell", "what", "behind"]) h (fun _ => Nat.le_of_ble_eq_true rfl)
      dsimp only at *
      refine ⟨_, (pss_cons (ps_asg (pe_slice sl_tupA (pv 1) po_none (po_some pe_int)) (pg_tup (by rfl) (pgs_cons (pg_name (i := 3) sc_behind_step.nd rfl (Or.inl rfl)) (pgs_cons (pg_name (i := 4) sc_behind_step.nd rfl (Or.inl rfl)) (pgs_cons (pg_name (i := 5) sc_behind_step.nd rfl (Or.inl rfl)) pgs_nil)))))
      (pss_cons (ps_if (pt_cmpR op_eq (pv 3) pe_str (nomark _)) (pss_one (ps_ret (pe_ifExp (pt_cmpR op_eq (pe_ix ix_tup (pv 2) (pv 4) (fun _ _ => rfl)) (pv 5) (nomark _)) (pe_call G_behind_step (hr.mono (by omega)) (by rfl) D_behind_step.m D_behind_step.F.kp D_behind_step.b .nil pass0 (pa_cons (pv 0) (pa_cons (pe_ix ix_tup (pv 1) pe_int (fun _ _ => rfl)) (pa_cons (pv 2) pa_nil)))) (pv 2)))) pss_nil)
      (pss_cons (ps_if (pt_cmpR op_eq (pv 3) pe_str (nomark _)) (pss_one (ps_ret (pe_call G_with_value (hr.mono (by omega)) (by rfl) D_with_value.m D_with_value.F.kp D_with_value.b .nil pass0 (pa_cons (pv 2) (pa_cons (pv 4) (pa_cons (pv 5) pa_nil)))))) pss_nil)
      (pss_cons (ps_if (pt_cmpR op_eq (pv 3) pe_str (nomark _)) (pss_one (ps_ret (pe_call G_with_value (hr.mono (by omega)) (by rfl) D_with_value.m D_with_value.F.kp D_with_value.b .nil pass0 (pa_cons (pv 2) (pa_cons (pv 4) (pa_cons (pe_op op_modN (pe_op op_add (pe_ix ix_tup (pv 2) (pv 4) (fun _ _ => rfl)) (pv 5)) (pe_ix ix_tup (pv 0) (pv 4) (fun _ _ => rfl))) pa_nil)))))) pss_nil)
      (pss_cons (ps_set (i := 6) sc_behind_step.nd rfl (Or.inl rfl) (pe_call G_with_value (hr.mono (by omega)) (by rfl) D_with_value.m D_with_value.F.kp D_with_value.b .nil pass0 (pa_cons (pv 2) (pa_cons (pv 4) (pa_cons (pe_ix ix_tup (pv 2) (pv 5) (fun _ _ => rfl)) pa_nil)))))
      (pss_one (ps_ret (pe_ifExp (pt_cmpR op_eq (pv 3) pe_str (nomark _)) (pv 6) (pe_call G_with_value (hr.mono (by omega)) (by rfl) D_with_value.m D_with_value.F.kp D_with_value.b .nil pass0 (pa_cons (pv 6) (pa_cons (pv 5) (pa_cons (pe_ix ix_tup (pv 2) (pv 4) (fun _ _ => rfl)) pa_nil)))))))))))), ?_⟩
      have hxl : x.length ≤ 1000 := by rw [hx.1]; exact hl
      cases st with
      | when c v st =>
        have hz := at_sz hs.1 0
        have hxc := hx.get hz
        refine sq (st_set3 F0 (ev_slT (ds := [.str "when", dN c, dN v, encStep st]) (ev_v rfl) eo_none (eo_some ev_i)) fun v1 v2 v3 H1 e1 F1 => ?_)
        refine sq (st_yes F1 (et (ev_eqStrB (b := true) (ev_v rfl) ev_s (by decide +kernel))) fun H2 e2 F2 => ?_)
        refine st_ret F2 (ev_if (Pb := fun b => b = decide ((x.getD c 0 : Int) = (v : Int))) (Pd := fun d => d = encC (stepC sz (.when c v st) x)) (et (ev_eqI (ev_ix (ev_v rfl) (ev_v rfl) (at_N hxc.1)) (ev_v rfl))) (fun p => ?_) fun p => ?_) fun w d H3 e3 r3 p3 => k w d H3 e3 r3 p3
        · have e0 : x.getD c 0 = v := by
            have z := of_decide_eq_true p.symm
            omega
          refine (ev_c (args := fun a : List Nat × Step × Con => [.d (dNs a.1), .d (encStep a.2.1), .d (encC a.2.2)]) (sz, st, x) (ea_c (ev_v rfl) (ea_c (ev_ix (ds := [.str "when", dN c, dN v, encStep st]) (ev_v rfl) ev_i rfl) (ea_c (ev_v rfl) ea_nil))) ⟨hs.2, hx, hl, h2, Nat.le_of_succ_le_succ hd⟩).imp fun d e => ?_
          rw [e]
          show _ = encC (if _ then _ else _)
          rw [if_pos e0]
        · have e0 : ¬ x.getD c 0 = v := fun z => by
            rw [z] at p
            simp at p
          refine (ev_v rfl).ev.imp fun d e => ?_
          rw [e]
          show _ = encC (if _ then _ else _)
          rw [if_neg e0]
      | set c v =>
        obtain ⟨z, hz, hv⟩ := hs
        have hxc := hx.get hz
        refine sq (st_set3 F0 (ev_slT (ds := [.str "set", dN c, dN v]) (ev_v rfl) eo_none (eo_some ev_i)) fun v1 v2 v3 H1 e1 F1 => ?_)
        refine sq (st_no F1 (et (ev_eqStrB (b := false) (ev_v rfl) ev_s (by decide +kernel))) fun H2 e2 F2 => ?_)
        refine sq (st_yes F2 (et (ev_eqStrB (b := true) (ev_v rfl) ev_s (by decide +kernel))) fun H2 e2 F2 => ?_)
        exact st_ret F2 (ev_with (ev_v rfl) (ev_v rfl) (ev_v rfl) hxc.2.2 hxl).ev fun w d H3 e3 r3 p3 => k w d H3 e3 r3 p3
      | add c v =>
        have hz := at_sz hs 1
        have hxc := hx.get hz
        have hzp := h2 _ (List.mem_of_getElem? hz)
        refine sq (st_set3 F0 (ev_slT (ds := [.str "add", dN c, dN v]) (ev_v rfl) eo_none (eo_some ev_i)) fun v1 v2 v3 H1 e1 F1 => ?_)
        refine sq (st_no F1 (et (ev_eqStrB (b := false) (ev_v rfl) ev_s (by decide +kernel))) fun H2 e2 F2 => ?_)
        refine sq (st_no F2 (et (ev_eqStrB (b := false) (ev_v rfl) ev_s (by decide +kernel))) fun H2 e2 F2 => ?_)
        refine sq (st_yes F2 (et (ev_eqStrB (b := true) (ev_v rfl) ev_s (by decide +kernel))) fun H2 e2 F2 => ?_)
        have em : ((x.getD c 0 : Int) + (v : Int)).fmod (sz.getD c 1 : Int) = (((x.getD c 0 + v) % sz.getD c 1 : Nat) : Int) := by
          rw [Int.fmod_eq_emod_of_nonneg _ (by omega), ← Int.natCast_add, ← Int.natCast_emod]
        refine st_ret F2 (ev_with (v := (x.getD c 0 + v) % sz.getD c 1) (ev_v rfl) (ev_v rfl) ((ev_modN (by omega) (ev_add (ev_ix (ev_v rfl) (ev_v rfl) (at_N hxc.1)) (ev_v rfl)) (ev_ix (ev_v rfl) (ev_v rfl) (at_N hz))).to (congrArg PyData.int em)) hxc.2.2 hxl).ev fun w d H3 e3 r3 p3 => k w d H3 e3 r3 p3
      | copy c d =>
        obtain ⟨z, hz, hz2⟩ := hs
        have hxc := hx.get hz
        have hxd := hx.get hz2
        refine sq (st_set3 F0 (ev_slT (ds := [.str "copy", dN c, dN d]) (ev_v rfl) eo_none (eo_some ev_i)) fun v1 v2 v3 H1 e1 F1 => ?_)
        refine sq (st_no F1 (et (ev_eqStrB (b := false) (ev_v rfl) ev_s (by decide +kernel))) fun H2 e2 F2 => ?_)
        refine sq (st_no F2 (et (ev_eqStrB (b := false) (ev_v rfl) ev_s (by decide +kernel))) fun H2 e2 F2 => ?_)
        refine sq (st_no F2 (et (ev_eqStrB (b := false) (ev_v rfl) ev_s (by decide +kernel))) fun H2 e2 F2 => ?_)
        refine sq (st_set F2 (ev_with (ev_v rfl) (ev_v rfl) (ev_ix (ev_v rfl) (ev_v rfl) (at_N hxd.1)) hxc.2.2 hxl).ev fun w d0 H3 e3 F3 p3 => ?_)
        subst p3
        exact st_ret F3 (ev_if (et (ev_eqStrB (b := true) (ev_v rfl) ev_s (by decide +kernel))) (fun _ => (ev_v rfl).ev) (fun z => nomatch z)) fun w d H3 e3 r3 p3 => k w d H3 e3 r3 p3
      | swap c d =>
        obtain ⟨z, hz, hz2, hcd⟩ := hs
        have hxc := hx.get hz
        have hxd := hx.get hz2
        refine sq (st_set3 F0 (ev_slT (ds := [.str "swap", dN c, dN d]) (ev_v rfl) eo_none (eo_some ev_i)) fun v1 v2 v3 H1 e1 F1 => ?_)
        refine sq (st_no F1 (et (ev_eqStrB (b := false) (ev_v rfl) ev_s (by decide +kernel))) fun H2 e2 F2 => ?_)
        refine sq (st_no F2 (et (ev_eqStrB (b := false) (ev_v rfl) ev_s (by decide +kernel))) fun H2 e2 F2 => ?_)
        refine sq (st_no F2 (et (ev_eqStrB (b := false) (ev_v rfl) ev_s (by decide +kernel))) fun H2 e2 F2 => ?_)
        refine sq (st_set F2 (ev_with (ev_v rfl) (ev_v rfl) (ev_ix (ev_v rfl) (ev_v rfl) (at_N hxd.1)) hxc.2.2 hxl).ev fun w d0 H3 e3 F3 p3 => ?_)
        subst p3
        refine st_ret F3 (ev_if (et (ev_eqStrB (b := false) (ev_v rfl) ev_s (by decide +kernel))) (fun z => nomatch z) (fun _ => (ev_with (ev_v rfl) (ev_v rfl) (ev_ix (ev_v rfl) (ev_v rfl) (at_N hxc.1)) ?_ ?_).ev)) fun w d H3 e3 r3 p3 => k w d H3 e3 r3 p3
        · rw [List.length_set]; exact hxd.2.2
        · rw [List.length_set]; exact hxl
/-! ### carried -/
def spCarried (T : List (Addr × Str)) : Sp := SpD T (α := House × Nat × Con) (fun a => [.d (encH a.1), .d (dN a.2.1), .d (encC a.2.2)]) (fun a => HouseOk a.1 ∧ a.2.1 < a.1.deeds.length ∧ ConOk a.1.sizes a.2.2) (fun a d => d = encC (doneC a.1 a.2.1 a.2.2))
theorem ok_carried {f : Addr} {fd : FuncData} (D : Df K mg "carried" s_carried f fd ["house", "deed", "content"]) (C1 : Cal P w K mg base "behind_step" s_behind_step ["sizes", "step", "content"] 6 (spStep T 4)) : Cal P w K mg base "carried" s_carried ["house", "deed", "content"] 7 (spCarried T) := by
  obtain ⟨fa, fda, D_behind_step, G_behind_step⟩ := C1
  refine ⟨f, fd, D, D.F.ok sc_carried (fun vs H Q E h => ?_) (fun cdv A outer s H vs Q E hr h => ?_)⟩
  · obtain ⟨a, h1, _⟩ := h
    exact h1.len
  · obtain ⟨⟨h, kk, x⟩, ⟨ho, hk, hx⟩, F0, k⟩ := SpD.ent (N := ["house", "deed", "content", "step"]) h (fun _ => Nat.le_of_ble_eq_true rfl)
    dsimp only at *
    refine ⟨_, (pss_cons (ps_for PassesOwn.never rfl (pi_tup (pe_ix ix_tup (pe_ix ix_tup (pv 0) pe_int (fun _ _ => rfl)) (pv 1) (fun _ _ => rfl))) (pg_name (i := 3) sc_carried.nd rfl (Or.inl rfl)) (pss_one (ps_set (i := 2) sc_carried.nd rfl (Or.inl rfl) (pe_call G_behind_step (hr.mono (by omega)) (by rfl) D_behind_step.m D_behind_step.F.kp D_behind_step.b .nil pass0 (pa_cons (pe_ix ix_tup (pv 0) pe_int (fun _ _ => rfl)) (pa_cons (pv 3) (pa_cons (pv 2) pa_nil)))))))
      (pss_one (ps_ret (pv 2)))), ?_⟩
    have hdk := at_sz hk []
    have hdo := ho.deeds _ (List.mem_of_getElem? hdk)
    have hxo := doneC_ok ho hk hx
    refine sq (st_forT (ds := (h.deeds.getD kk []).map encStep) (fun n env' σ' H' => ∃ a y, env' = [.d (encH h), .d (dN kk), .d (encC y), a] ∧ y = ((h.deeds.getD kk []).take n).foldl (fun x s => stepC h.sizes s x) x ∧ ConOk h.sizes y) F0 (ev_ix (ev_ix (ev_v rfl) ev_i rfl) (ev_v rfl) (at_Deed hdk)) (fun H2 e2 => ⟨_, x, rfl, rfl, hx⟩) (fun v0 n d v env' σ' H' hd F' hI hv => ?_) (fun env' σ' H' F' hI => ?_))
    · obtain ⟨a, y, rfl, hy, hyo⟩ := hI
      rw [List.getElem?_map] at hd
      obtain ⟨st, hst, rfl⟩ := Option.map_eq_some_iff.mp hd
      have hso := hdo.2 st (List.mem_of_getElem? hst)
      refine gN F' hv fun F2 => ?_
      refine st_set F2 (ev_c (args := fun a : List Nat × Step × Con => [.d (dNs a.1), .d (encStep a.2.1), .d (encC a.2.2)]) (h.sizes, st, y) (ea_c (ev_ix (ev_v rfl) ev_i rfl) (ea_c (ev_v rfl) (ea_c (ev_v rfl) ea_nil))) ⟨hso.1, hyo, Nat.le_trans ho.s3 (by decide), fun z hz => (ho.sz z hz).1, hso.2⟩) fun v3 d3 H3 e3 F3 p3 => ?_
      subst p3
      refine ⟨_, F3, _, _, rfl, ?_, stepC_ok (fun z hz => (ho.sz z hz).1) hso.1 hyo⟩
      rw [take_snoc hst, List.foldl_append, ← hy]
      rfl
    · obtain ⟨a, y, rfl, hy, hyo⟩ := hI
      rw [List.length_map, List.take_length] at hy
      refine st_ret F' (ev_v rfl).ev fun v d H4 e4 r4 p4 => k v d H4 e4 r4 ?_
      rw [p4, hy]
      rfl
end
end K22
/-! KE1: the defs on sets. -/
namespace K22
open PySem PySem.Spec L2 LamX
theorem u8 {k : Nat} {A : Around} (hr : Room k A) : A.units + 8 < cLine := by have := hr.un; omega
theorem u9 {k : Nat} {A : Around} (hr : Room k A) : A.units + 9 < cLine := by have := hr.un; omega
theorem pi_or {X : Cx} {tg e : Expr} {w1 w2 : TI} (h1 : PI X tg e w1) (h2 : PI X tg e w2) : PI X tg e (fun σ H R => w1 σ H R ∨ w2 σ H R) :=
  ⟨fun pins s σ H R I h => h.elim (fun z => h1.run pins s σ H R I z) fun z => h2.run pins s σ H R I z⟩
/-! rules inside a comprehension's block: the frame's constants told -/
theorem ixT {X : Cx} (K : PySem.W.Frag) (h : X.K = K := by rfl) : IxR X (rIxT K) := by subst h; exact ix_tup
theorem ixL {X : Cx} (K : PySem.W.Frag) (h : X.K = K := by rfl) : IxR X (rIxL K) := by subst h; exact ix_list
theorem catT {X : Cx} (K : PySem.W.Frag) (h : X.K = K := by rfl) : OpR X (binaryOp .Add) (rCatA K) := by subst h; exact op_catA
theorem slT {X : Cx} (K : PySem.W.Frag) (h : X.K = K := by rfl) : SlR X (rSlA K) := by subst h; exact sl_tupA
theorem slL {X : Cx} (K : PySem.W.Frag) (h : X.K = K := by rfl) : SlR X (rSlL K) := by subst h; exact sl_list
theorem eqDK {X : Cx} (K : PySem.W.Frag) (hu : X.A.units + 64 < cLine) (h : X.K = K := by rfl) : OpR X (compareOp .Eq) (rEqD K) := by subst h; exact op_eqD hu
theorem neDK {X : Cx} (K : PySem.W.Frag) (hu : X.A.units + 64 < cLine) (h : X.K = K := by rfl) : OpR X (compareOp .NotEq) (rNeD K) := by subst h; exact op_neD hu
theorem lenS {X : Cx} (K : PySem.W.Frag) (h : X.K = K := by rfl) : CallR X (.builtin "len") (fun xs H Q => ∃ p ys, xs = [.ref p] ∧ (SqL K H p ys ∨ SqT K H p ys) ∧ Q (.int ys.length) H) := by subst h; exact call_len_seq
abbrev s_as_set : Stmt := topS 8
theorem sc_as_set : FnScope ["found", "content"] ["found"] (defScope s_as_set) := ⟨rfl, rfl, rfl, by decide +kernel, rfl, by decide +kernel, by decide +kernel⟩
abbrev s_image : Stmt := topS 9
theorem sc_image : FnScope ["house", "deed", "some", "content"] ["house", "deed", "some"] (defScope s_image) := ⟨rfl, rfl, rfl, by decide +kernel, rfl, by decide +kernel, by decide +kernel⟩
abbrev s_maybe : Stmt := topS 10
theorem sc_maybe : FnScope ["house", "deed", "some"] ["house", "deed", "some"] (defScope s_maybe) := ⟨rfl, rfl, rfl, by decide +kernel, rfl, by decide +kernel, by decide +kernel⟩
abbrev s_stirred : Stmt := topS 11
theorem sc_stirred : FnScope ["house", "cell", "some", "found", "content", "value"] ["house", "cell", "some"] (defScope s_stirred) := ⟨rfl, rfl, rfl, by decide +kernel, rfl, by decide +kernel, by decide +kernel⟩
section
variable {P : Program} {w : World} {K : PySem.W.Frag} {mg : Str → Option Value} {base : Heap} {T : List (Addr × Str)}
/-! ### as_set -/
/-- contents in a tuple, a list, a dict's keys -/
def Found (P : Program) (w : World) (H : Hp) (v : V) (s : List Con) : Prop :=
  Dt H v (encS s) ∨ (∃ a vs, v = .ref a ∧ H a = some (.lst vs) ∧ DtA H vs (s.map encC)) ∨ ∃ (a : Addr) (kvs : NT), v = .ref a ∧ DN P w H a kvs ∧ (kvs.map fun p => kd p.1) = s.map encC
def spAsSet (P : Program) (w : World) (T : List (Addr × Str)) : Sp := fun vs H Q _ => ∃ v s d, vs = [v] ∧ Found P w H v s ∧ s.length < 64 ∧ 1 ≤ d ∧ CSm d s ∧ ∀ v' H', Ex T none H H' → Dt H' v' (encS (norm s)) → Q v' H'
theorem ok_asset (B : Bi mg) {f : Addr} {fd : FuncData} (D : Df K mg "as_set" s_as_set f fd ["found"]) : Cal P w K mg base "as_set" s_as_set ["found"] 1 (spAsSet P w T) := by
  refine ⟨f, fd, D, D.F.ok sc_as_set (fun vs H Q E h => ?_) (fun cdv A outer s H vs Q E hr h => ?_)⟩
  · obtain ⟨v, s, d, rfl, _⟩ := h
    rfl
  · obtain ⟨v, ss, d, rfl, hf, h64, hd, hc, k⟩ := h
    have F0 : Fr T none H [] [.r v, .u] H (L2.start ["found", "content"] [v]) := Fr.start (N := ["found", "content"]) (po := none) (xs := [.r v]) (fun _ z => nomatch z) (.cons (x := .r v) rfl (fun _ z => nomatch z) .nil) (Nat.le_of_ble_eq_true rfl)
    refine ⟨_, (pss_one (ps_ret (pe_tupleOf (by rfl) B.tuple (pe_callB cr_sortE (by rfl) B.sorted (by decide +kernel) (pa_cons (pe_callTy (call_list_N rfl) (by rfl) B.list PyProof.Rows.boot_list (pa_cons (pe_dcN (own := [("content", 1)]) (g := gName 1) (u8 hr) rfl sc_as_set.nd (pi_or (pi_or (pi_list (pv 0)) (pi_tup (pv 0))) (pi_keysN (pv 0))) (blkOk_by (N := ["found", "content"]) (sc := defScope s_as_set) (by decide +kernel)) (fun _ _ _ _ _ => (pg_name (i := 1) sc_as_set.nd rfl (Or.inl rfl))) (fun _ _ _ _ _ => (pv 1)) (fun _ _ _ _ _ => pe_bl)) pa_nil)) pa_nil))))), ?_⟩
    have walk : EvC T none H [] [.r v, .u] (fun σ H R => (iList K (tVar 0) σ H R ∨ iTup K (tVar 0) σ H R) ∨ iKeysN P w (tVar 0) σ H R) (· = ss.map encC) := fun σ H1 F R q => by
      have hv := F.rf (i := 0) rfl
      rcases hf with hf | ⟨a, vs, rfl, h1, h2⟩ | ⟨a, kvs, rfl, ⟨hz, o, xs, h1, h2, h3⟩, hk⟩
      · obtain ⟨a, xs, rfl, h1, h2⟩ := (hf.mono F.ext.tup).t
        refine .inl (.inr ⟨.ref a, hv, a, rfl, ⟨xs, SqT.of h1⟩, q _ H1 _ (fun H => H a = some (.tup xs) ∧ DtA H xs (ss.map encC)) (Ex.refl _) F ⟨h1, h2⟩ (fun H2 H3 s e => ⟨e.tup _ _ s.1, s.2.mono e.tup⟩) (fun i H' s => ⟨fun d hd => ?_, fun hl => ⟨xs, SqT.of s.1, by rw [s.2.len]; exact hl⟩⟩) rfl⟩)
        obtain ⟨y, hy, rd⟩ := s.2.get hd
        refine ⟨⟨xs, y, SqT.of s.1, hy⟩, fun x H2 z => ?_⟩
        obtain ⟨rfl, z⟩ := z
        rw [Option.some.inj ((z xs (SqT.of s.1)).symm.trans hy)]
        exact ⟨fun _ _ => Ex.refl _, rd⟩
      · have h1' : H1 a = some (.lst vs) := F.ext.lst NP.none h1
        have h2' := h2.mono F.ext.tup
        refine .inl (.inl ⟨.ref a, hv, a, rfl, ⟨vs, SqL.of h1'⟩, q _ H1 _ (fun H => H a = some (.lst vs) ∧ DtA H vs (ss.map encC)) (Ex.refl _) F ⟨h1', h2'⟩ (fun H2 H3 s e => ⟨e.lst NP.none s.1, s.2.mono e.tup⟩) (fun i H' s => ⟨fun d hd => ?_, fun hl => ⟨vs, SqL.of s.1, by rw [s.2.len]; exact hl⟩⟩) rfl⟩)
        obtain ⟨y, hy, rd⟩ := s.2.get hd
        refine ⟨⟨vs, y, SqL.of s.1, hy⟩, fun x H2 z => ?_⟩
        obtain ⟨rfl, z⟩ := z
        rw [Option.some.inj ((z vs (SqL.of s.1)).symm.trans hy)]
        exact ⟨fun _ _ => Ex.refl _, rd⟩
      · have h1' := F.ext.keep a _ NP.none (by intro _ z; cases z) h1
        have h2' := h2.mono F.ext.tup
        refine .inr ⟨.ref a, hv, a, o, xs, rfl, h1', q _ H1 _ _ (Ex.refl _) F ⟨h1', ents_dt h2'⟩ (fun H2 H3 s e => ⟨e.keep a _ NP.none (by intro _ z; cases z) s.1, s.2.mono e.tup⟩) (jw_keys h2') hk⟩
    have dc : EvN P w T none H [] [.r v, .u] (tDcN P w _ (gName 1) (tVar 1) (tC (.bl true)) [1]) _ := en_dc (P := P) (w := w) (ta := tVar 1) (tb := tC (.bl true)) (c := .bool true) nk walk (tg_name (i := 1)) (fun ds e => by
        subst e
        refine ⟨by rw [List.length_map]; omega, fun d hd => ?_⟩
        obtain ⟨x, hx, rfl⟩ := List.mem_map.mp hd
        exact ⟨trivial, by rw [nk_encC, kd_cK], by rw [nk_encC, dep_cK]; decide, _, rfl⟩) (fun ds e d hd => ev_v rfl) (fun ds e d hd => ev_b)
    have lst := el_sortC (K := K) (Ps := fun l => l.Nodup ∧ ∀ x, x ∈ l ↔ x ∈ ss) ((el_listN dc).imp fun ds ⟨kvs, ⟨ds', e1, e2⟩, e3⟩ => by
        subst e1
        obtain ⟨l, l1, l2, l3⟩ := build_con (.bool true) ss
        refine ⟨l, ?_, l2, l3⟩
        rw [e3, e2, l1, List.map_map]
        exact List.map_congr_left fun x _ => kd_cK x) (fun l hl => by
        obtain ⟨hn, hm⟩ := hl
        exact ⟨Nat.lt_of_le_of_lt (List.Nodup.length_le_of_subset' hn fun x hx => (hm x).mp hx) h64, d, hd, hc.sub fun x hx => (hm x).mp hx⟩)
    refine st_ret F0 (ev_tuple (K := K) lst.k) fun v1 d1 H1 e1 r1 ⟨ds, ⟨l, r, ⟨hn, hm⟩, er, hp, hw⟩, p1⟩ => k v1 H1 e1 ?_
    subst p1
    subst er
    rw [← perm_set hc hp hn hm hw]
    exact r1
theorem ev_asL {po : Option PenD} {Hb : Hp} {gs : List (V × AV)} {env : List AV} {te : TE} {E : XK} {Ps : List Con → Prop} (h : EvK T po Hb gs env te fun ds => ∃ s, ds = s.map encC ∧ Ps s) (hs : ∀ s, Ps s → s.length < 64 ∧ ∃ d, 1 ≤ d ∧ CSm d s) :
    Ev T po Hb gs env (tCall (spAsSet P w T) [] E (tCons te tNil)) (fun x => ∃ s, Ps s ∧ x = encS (norm s)) := fun σ H F Q q => by
  refine h σ H F _ fun a vs ds H1 e1 F1 np h1 r1 ⟨s, es, p1⟩ => ?_
  subst es
  obtain ⟨h64, d, hd, hc⟩ := hs s p1
  exact ⟨.ref a, s, d, rfl, .inr (.inl ⟨a, vs, rfl, h1, r1⟩), h64, hd, hc, fun v' H' e2 r2 => q v' _ H' (e1.trans e2.weak) (F1.mono e2.weak) r2 ⟨s, p1, rfl⟩⟩
theorem ev_asT {po : Option PenD} {Hb : Hp} {gs : List (V × AV)} {env : List AV} {te : TE} {E : XK} {s : List Con} (h : EvD T po Hb gs env te (encS s)) (hs : s.length < 64 ∧ ∃ d, 1 ≤ d ∧ CSm d s) :
    EvD T po Hb gs env (tCall (spAsSet P w T) [] E (tCons te tNil)) (encS (norm s)) := fun σ H F Q q => by
  refine h σ H F _ fun v H1 e1 F1 r1 => ?_
  obtain ⟨h64, d, hd, hc⟩ := hs
  exact ⟨v, s, d, rfl, .inl r1, h64, hd, hc, fun v' H' e2 r2 => q v' H' (e1.trans e2.weak) (F1.mono e2.weak) r2⟩
theorem el_mapT {po : Option PenD} {Hb : Hp} {gs : List (V × AV)} {env : List AV} {tl te : TE} {i : Nat} {ds : List PyData} {f : PyData → PyData} (h : EvD T po Hb gs env tl (.tuple ds)) (hl : ds.length < 16777216) (he : ∀ d ∈ ds, EvD T po Hb gs (env.set i (.d d)) te (f d)) : EvL T po Hb gs env (tLc (iTup K tl) (gName i) tYes te [i]) (· = ds.map f) :=
  (el_compT (fun _ b => b = true) (fun d e => e = f d) h hl (fun d _ => et_yes) (fun d hd _ => (he d hd).ev)).imp fun out c => c.map (fun d e p => p)
theorem el_mapR {po : Option PenD} {Hb : Hp} {gs : List (V × AV)} {env : List AV} {ta te : TE} {i n : Nat} {f : Nat → PyData} (h : EvD T po Hb gs env ta (dN n)) (hl : n < 16777216) (he : ∀ k, k < n → EvD T po Hb gs (env.set i (.d (dN k))) te (f k)) : EvL T po Hb gs env (tLc (iRng1 (tCons ta tNil)) (gName i) tYes te [i]) (· = (List.range n).map f) :=
  (el_compR (fun _ b => b = true) (fun d e => ∃ k : Nat, d = dN k ∧ e = f k) h.ev (fun d e => ⟨n, e, hl⟩) (fun n' k e hk => et_yes) (fun n' k e hk _ => by
    have en : n' = n := by injection e with e; omega
    subst en
    exact (he k hk).ev.imp fun x ex => ⟨k, rfl, ex⟩)).imp fun out ⟨n', e, c⟩ => by
    have en : n' = n := by injection e with e; omega
    subst en
    have c2 := c.map (f := fun d => match d with | .int i => f i.toNat | _ => .none) (fun d e ⟨k, e1, e2⟩ => by subst e1; rw [e2]; simp)
    rw [c2]
    unfold upto
    rw [List.map_map]
    refine List.map_congr_left fun k _ => ?_
    show f ((k : Nat) : Int).toNat = f k
    rw [Int.toNat_natCast]
open Classical in
/-- f told on what stands encoded -/
noncomputable def onEnc {α : Type} (enc : α → PyData) (l : List α) (f : α → PyData) (d : PyData) : PyData := if h : ∃ x, x ∈ l ∧ enc x = d then f h.choose else d
theorem onEnc_at {α : Type} {enc : α → PyData} {l : List α} {f : α → PyData} (hi : ∀ x ∈ l, ∀ y ∈ l, enc x = enc y → f x = f y) {x : α} (hx : x ∈ l) : onEnc enc l f (enc x) = f x := by
  have h : ∃ y, y ∈ l ∧ enc y = enc x := ⟨x, hx, rfl⟩
  unfold onEnc
  rw [dif_pos h]
  exact hi _ h.choose_spec.1 _ hx h.choose_spec.2
theorem el_mapE {α : Type} {enc : α → PyData} {po : Option PenD} {Hb : Hp} {gs : List (V × AV)} {env : List AV} {tl te : TE} {i : Nat} {l : List α} {f : α → PyData} (hi : ∀ x ∈ l, ∀ y ∈ l, enc x = enc y → f x = f y) (h : EvD T po Hb gs env tl (.tuple (l.map enc))) (hl : l.length < 16777216)
    (he : ∀ x ∈ l, EvD T po Hb gs (env.set i (.d (enc x))) te (f x)) : EvL T po Hb gs env (tLc (iTup K tl) (gName i) tYes te [i]) (· = l.map f) :=
  (el_mapT (f := onEnc enc l f) h (by rw [List.length_map]; exact hl) (fun d hd => by
    obtain ⟨x, hx, rfl⟩ := List.mem_map.mp hd
    rw [onEnc_at hi hx]
    exact he x hx)).imp fun out e => by
    rw [e, List.map_map]
    exact List.map_congr_left fun x hx => onEnc_at hi hx
theorem encC_inj : ∀ {x y : Con}, encC x = encC y → x = y := fun {x y} h => cK_inj (by rw [← nk_encC, ← nk_encC, h])
theorem ev_car {po : Option PenD} {Hb : Hp} {gs : List (V × AV)} {env : List AV} {E : XK} {th tk tx : TE} {h : House} {k : Nat} {x : Con} (h1 : EvD T po Hb gs env th (encH h)) (h2 : EvD T po Hb gs env tk (dN k)) (h3 : EvD T po Hb gs env tx (encC x)) (ho : HouseOk h) (hk : k < h.deeds.length) (hx : ConOk h.sizes x) :
    EvD T po Hb gs env (tCall (spCarried T) [] E (tCons th (tCons tk (tCons tx tNil)))) (encC (doneC h k x)) :=
  Ev.one (ev_c (args := fun a : House × Nat × Con => [.d (encH a.1), .d (dN a.2.1), .d (encC a.2.2)]) (h, k, x) (ea_c h1 (ea_c h2 (ea_c h3 ea_nil))) ⟨ho, hk, hx⟩)
/-! ### image, maybe -/
/-- contents of the house, each once, perhaps none -/
structure SetG (h : House) (s : List Con) : Prop where
  all : ∀ x ∈ s, ConOk h.sizes x
  nd : s.Nodup
theorem SetOk.g {h : House} {s : List Con} (o : SetOk h s) : SetG h s := ⟨o.all, o.nd⟩
/-- all contents -/
def allC : List Nat → List Con
  | [] => [[]]
  | z :: r => (List.range z).flatMap fun v => (allC r).map fun x => v :: x
theorem allC_len : ∀ sizes : List Nat, (allC sizes).length = sizes.foldr (· * ·) 1
  | [] => rfl
  | z :: r => by
    have ih := allC_len r
    have go : ∀ n : Nat, ((List.range n).flatMap fun v => (allC r).map fun x => v :: x).length = n * (allC r).length := by
      intro n
      induction n with
      | zero => simp
      | succ n ihn =>
        rw [List.range_succ, List.flatMap_append, List.length_append, ihn, Nat.succ_mul]
        simp
    show ((List.range z).flatMap fun v => (allC r).map fun x => v :: x).length = _
    rw [go, ih]
    rfl
theorem con_tail {z : Nat} {r : List Nat} {v : Nat} {x : Con} (h : ConOk (z :: r) (v :: x)) : v < z ∧ ConOk r x :=
  ⟨h.2 0 v z rfl rfl, Nat.succ.inj h.1, fun i u y h1 h2 => h.2 (i + 1) u y (by simpa using h1) (by simpa using h2)⟩
theorem allC_mem : ∀ {sizes : List Nat} {x : Con}, ConOk sizes x → x ∈ allC sizes
  | [], x, h => by
    have e : x = [] := List.length_eq_zero_iff.mp h.1
    rw [e]
    exact List.mem_singleton.mpr rfl
  | z :: r, [], h => nomatch h.1
  | z :: r, v :: x, h => by
    obtain ⟨h1, h2⟩ := con_tail h
    exact List.mem_flatMap.mpr ⟨v, List.mem_range.mpr h1, List.mem_map.mpr ⟨x, allC_mem h2, rfl⟩⟩
theorem foldlr : ∀ (l : List Nat) (a : Nat), l.foldl (· * ·) a = a * l.foldr (· * ·) 1
  | [], a => by simp
  | z :: r, a => by
    show r.foldl (· * ·) (a * z) = a * (z * r.foldr (· * ·) 1)
    rw [foldlr r (a * z), Nat.mul_assoc]
theorem nd_le8 {h : House} (ho : HouseOk h) {s : List Con} (ha : ∀ x ∈ s, ConOk h.sizes x) (hn : s.Nodup) : s.length ≤ 8 := by
  have h1 := List.Nodup.length_le_of_subset' hn fun x hx => allC_mem (ha x hx)
  rw [allC_len] at h1
  have h2 := ho.prod
  rw [foldlr] at h2
  omega
theorem SetG.le8 {h : House} (ho : HouseOk h) {s : List Con} (g : SetG h s) : s.length ≤ 8 := nd_le8 ho g.all g.nd
theorem csm_of {h : House} (ho : HouseOk h) {s : List Con} (g : ∀ x ∈ s, ConOk h.sizes x) : CSm h.sizes.length s := fun x hx => by
  refine ⟨(g x hx).1, fun n hn => ?_⟩
  obtain ⟨i, hi⟩ := List.mem_iff_getElem?.mp hn
  have hl : i < h.sizes.length := by rw [← (g x hx).1]; exact (List.getElem?_eq_some_iff.mp hi).1
  have hz := List.getElem?_eq_getElem hl
  have h1 := (g x hx).2 i n _ hi hz
  have h2 := ho.sz _ (List.mem_of_getElem? hz)
  omega
theorem norm_g {h : House} (ho : HouseOk h) {s : List Con} (g : ∀ x ∈ s, ConOk h.sizes x) : SetG h (norm s) := ⟨fun x hx => g x (norm_sub hx), norm_nodup (csm_of ho g)⟩
theorem done_all {h : House} (ho : HouseOk h) {k : Nat} (hk : k < h.deeds.length) {s : List Con} (g : ∀ x ∈ s, ConOk h.sizes x) : ∀ x ∈ s.map (doneC h k), ConOk h.sizes x := fun x hx => by
  obtain ⟨y, hy, rfl⟩ := List.mem_map.mp hx
  exact doneC_ok ho hk (g y hy)
def spImage (T : List (Addr × Str)) : Sp := SpD T (α := House × Nat × List Con) (fun a => [.d (encH a.1), .d (dN a.2.1), .d (encS a.2.2)]) (fun a => HouseOk a.1 ∧ a.2.1 < a.1.deeds.length ∧ SetG a.1 a.2.2) (fun a d => d = encS (norm (a.2.2.map (doneC a.1 a.2.1))))
theorem ok_image {f : Addr} {fd : FuncData} (D : Df K mg "image" s_image f fd ["house", "deed", "some"]) (C1 : Cal P w K mg base "carried" s_carried ["house", "deed", "content"] 7 (spCarried T)) (C2 : Cal P w K mg base "as_set" s_as_set ["found"] 1 (spAsSet P w T)) :
    Cal P w K mg base "image" s_image ["house", "deed", "some"] 8 (spImage T) := by
  obtain ⟨fa, fda, D_carried, G_carried⟩ := C1
  obtain ⟨fb, fdb, D_as_set, G_as_set⟩ := C2
  refine ⟨f, fd, D, D.F.ok sc_image (fun vs H Q E h => ?_) (fun cdv A outer s H vs Q E hr h => ?_)⟩
  · obtain ⟨a, h1, _⟩ := h
    exact h1.len
  · obtain ⟨⟨h, kk, ss⟩, ⟨ho, hk, hg⟩, F0, k⟩ := SpD.ent (N := ["house", "deed", "some", "content"]) h (fun _ => Nat.le_of_ble_eq_true rfl)
    dsimp only at *
    refine ⟨_, (pss_one (ps_ret (pe_call G_as_set (hr.mono (by omega)) (by rfl) D_as_set.m D_as_set.F.kp D_as_set.b .nil pass0 (pa_cons (pe_lc (own := [("content", 3)]) (g := gName 3) rfl sc_image.nd (pi_tup (pv 2)) (blkOk_by (N := ["house", "deed", "some", "content"]) (sc := defScope s_image) (by decide +kernel)) (fun _ _ _ _ _ => (pg_name (i := 3) sc_image.nd rfl (Or.inl rfl))) (fun _ _ _ _ _ => pts_nil) (fun _ _ _ _ _ => (pe_call G_carried (hr.mono (by omega)) (by rfl) D_carried.m D_carried.F.kp D_carried.b .nil pass0 (pa_cons (pv 0) (pa_cons (pv 1) (pa_cons (pv 3) pa_nil)))))) pa_nil)))), ?_⟩
    have l8 := hg.le8 ho
    refine st_ret F0 (ev_asL (Ps := (· = ss.map (doneC h kk))) ((el_mapE (enc := encC) (f := fun x => encC (doneC h kk x)) (fun x _ y _ e => by rw [encC_inj e]) (ev_v rfl) (by omega) fun x hx => ev_car (ev_v rfl) (ev_v rfl) (ev_v rfl) ho hk (hg.all x hx)).k.imp fun ds e => ⟨_, by rw [e, List.map_map]; rfl, rfl⟩) fun s' e => ?_) fun v d H1 e1 r1 ⟨s', p1, p2⟩ => k v d H1 e1 r1 (by rw [p2, p1])
    subst e
    exact ⟨by rw [List.length_map]; omega, _, ho.s1, csm_of ho (done_all ho hk hg.all)⟩
theorem ev_image {po : Option PenD} {Hb : Hp} {gs : List (V × AV)} {env : List AV} {E : XK} {th tk ts : TE} {h : House} {k : Nat} {s : List Con} (h1 : EvD T po Hb gs env th (encH h)) (h2 : EvD T po Hb gs env tk (dN k)) (h3 : EvD T po Hb gs env ts (encS s)) (ho : HouseOk h) (hk : k < h.deeds.length) (hs : SetG h s) :
    EvD T po Hb gs env (tCall (spImage T) [] E (tCons th (tCons tk (tCons ts tNil)))) (encS (norm (s.map (doneC h k)))) :=
  Ev.one (ev_c (args := fun a : House × Nat × List Con => [.d (encH a.1), .d (dN a.2.1), .d (encS a.2.2)]) (h, k, s) (ea_c h1 (ea_c h2 (ea_c h3 ea_nil))) ⟨ho, hk, hs⟩)
theorem norm_app {h : House} (ho : HouseOk h) {s t : List Con} (hs : ∀ x ∈ s, ConOk h.sizes x) (ht : ∀ x ∈ t, ConOk h.sizes x) : norm (s ++ norm t) = norm (s ++ t) := by
  have h1 : ∀ x ∈ s ++ norm t, ConOk h.sizes x := fun x hx => (List.mem_append.mp hx).elim (hs x) fun z => ht x (norm_sub z)
  have h2 : ∀ x ∈ s ++ t, ConOk h.sizes x := fun x hx => (List.mem_append.mp hx).elim (hs x) (ht x)
  refine norm_of (csm_of ho h1) (csm_of ho h2) fun x => ?_
  rw [List.mem_append, List.mem_append, norm_mem (csm_of ho ht)]
def spMaybe (T : List (Addr × Str)) : Sp := SpD T (α := House × Nat × List Con) (fun a => [.d (encH a.1), .d (dN a.2.1), .d (encS a.2.2)]) (fun a => HouseOk a.1 ∧ a.2.1 < a.1.deeds.length ∧ SetG a.1 a.2.2) (fun a d => d = encS (norm (a.2.2 ++ a.2.2.map (doneC a.1 a.2.1))))
theorem ok_maybe {f : Addr} {fd : FuncData} (D : Df K mg "maybe" s_maybe f fd ["house", "deed", "some"]) (C1 : Cal P w K mg base "image" s_image ["house", "deed", "some"] 8 (spImage T)) (C2 : Cal P w K mg base "as_set" s_as_set ["found"] 1 (spAsSet P w T)) :
    Cal P w K mg base "maybe" s_maybe ["house", "deed", "some"] 9 (spMaybe T) := by
  obtain ⟨fa, fda, D_image, G_image⟩ := C1
  obtain ⟨fb, fdb, D_as_set, G_as_set⟩ := C2
  refine ⟨f, fd, D, D.F.ok sc_maybe (fun vs H Q E h => ?_) (fun cdv A outer s H vs Q E hr h => ?_)⟩
  · obtain ⟨a, h1, _⟩ := h
    exact h1.len
  · obtain ⟨⟨h, kk, ss⟩, ⟨ho, hk, hg⟩, F0, k⟩ := SpD.ent (N := ["house", "deed", "some"]) h (fun _ => Nat.le_of_ble_eq_true rfl)
    dsimp only at *
    refine ⟨_, (pss_one (ps_ret (pe_call G_as_set (hr.mono (by omega)) (by rfl) D_as_set.m D_as_set.F.kp D_as_set.b .nil pass0 (pa_cons (pe_op op_catA (pv 2) (pe_call G_image (hr.mono (by omega)) (by rfl) D_image.m D_image.F.kp D_image.b .nil pass0 (pa_cons (pv 0) (pa_cons (pv 1) (pa_cons (pv 2) pa_nil))))) pa_nil)))), ?_⟩
    have l8 := hg.le8 ho
    have da := done_all ho hk hg.all
    have g2 := norm_g ho da
    have l9 := g2.le8 ho
    refine st_ret F0 (ev_asT (s := ss ++ norm (ss.map (doneC h kk))) ((ev_cat (ev_v rfl) (ev_image (ev_v rfl) (ev_v rfl) (ev_v rfl) ho hk hg) (by rw [List.length_map, List.length_map]; omega)).to (by rw [← List.map_append])) ?_).ev fun v d H1 e1 r1 p1 => k v d H1 e1 r1 (by rw [p1, norm_app ho hg.all da])
    exact ⟨by rw [List.length_append]; omega, _, ho.s1, csm_of ho fun x hx => (List.mem_append.mp hx).elim (hg.all x) (g2.all x)⟩
theorem ev_maybe {po : Option PenD} {Hb : Hp} {gs : List (V × AV)} {env : List AV} {E : XK} {th tk ts : TE} {h : House} {k : Nat} {s : List Con} (h1 : EvD T po Hb gs env th (encH h)) (h2 : EvD T po Hb gs env tk (dN k)) (h3 : EvD T po Hb gs env ts (encS s)) (ho : HouseOk h) (hk : k < h.deeds.length) (hs : SetG h s) :
    EvD T po Hb gs env (tCall (spMaybe T) [] E (tCons th (tCons tk (tCons ts tNil)))) (encS (norm (s ++ s.map (doneC h k)))) :=
  Ev.one (ev_c (args := fun a : House × Nat × List Con => [.d (encH a.1), .d (dN a.2.1), .d (encS a.2.2)]) (h, k, s) (ea_c h1 (ea_c h2 (ea_c h3 ea_nil))) ⟨ho, hk, hs⟩)
/-! ### stirred -/
def stirC (h : House) (c : Nat) (s : List Con) : List Con := s.flatMap fun x => (List.range (h.sizes.getD c 0)).map fun v => x.set c v
theorem stir_len {h : House} {c z : Nat} (hz : h.sizes.getD c 0 ≤ z) (s : List Con) : (stirC h c s).length ≤ s.length * z := by
  unfold stirC
  induction s with
  | nil => simp
  | cons x r ih =>
    rw [List.flatMap_cons, List.length_append, List.length_map, List.length_range, List.length_cons, Nat.succ_mul]
    omega
theorem stir_all {h : House} {c : Nat} (hc : c < h.sizes.length) {s : List Con} (g : ∀ x ∈ s, ConOk h.sizes x) : ∀ x ∈ stirC h c s, ConOk h.sizes x := fun x hx => by
  unfold stirC at hx
  obtain ⟨y, hy, hx⟩ := List.mem_flatMap.mp hx
  obtain ⟨v, hv, rfl⟩ := List.mem_map.mp hx
  exact (g y hy).set (at_sz hc 0) (List.mem_range.mp hv)
def spStirred (T : List (Addr × Str)) : Sp := SpD T (α := House × Nat × List Con) (fun a => [.d (encH a.1), .d (dN a.2.1), .d (encS a.2.2)]) (fun a => HouseOk a.1 ∧ a.2.1 < a.1.sizes.length ∧ SetG a.1 a.2.2) (fun a d => d = encS (norm (stirC a.1 a.2.1 a.2.2)))
theorem ok_stirred (B : Bi mg) {f : Addr} {fd : FuncData} (D : Df K mg "stirred" s_stirred f fd ["house", "cell", "some"]) (C1 : Cal P w K mg base "with_value" s_with_value ["content", "cell", "value"] 1 (spWith T)) (C2 : Cal P w K mg base "as_set" s_as_set ["found"] 1 (spAsSet P w T)) :
    Cal P w K mg base "stirred" s_stirred ["house", "cell", "some"] 2 (spStirred T) := by
  obtain ⟨fa, fda, D_with_value, G_with_value⟩ := C1
  obtain ⟨fb, fdb, D_as_set, G_as_set⟩ := C2
  refine ⟨f, fd, D, D.F.ok sc_stirred (fun vs H Q E h => ?_) (fun cdv A outer s H vs Q E hr h => ?_)⟩
  · obtain ⟨a, h1, _⟩ := h
    exact h1.len
  · obtain ⟨⟨h, cc, ss⟩, ⟨ho, hc, hg⟩, F0, k⟩ := SpD.ent (N := ["house", "cell", "some", "found", "content", "value"]) h (fun _ => Nat.le_of_ble_eq_true rfl)
    dsimp only at *
    refine ⟨_, (pss_cons (ps_set (i := 3) sc_stirred.nd rfl (Or.inl rfl) (pe_lst pa_nil))
      (pss_cons (ps_for PassesOwn.never rfl (pi_tup (pv 2)) (pg_name (i := 4) sc_stirred.nd rfl (Or.inr rfl)) (pss_one (ps_expr (pe_bm PySem.F.plainAttrs_list PySem.F.slot_list_extend PySem.F.type_list_extend mt_extend (pv 3) (pa_cons (pe_lc (own := [("value", 5)]) (g := gName 5) rfl sc_stirred.nd (pi_range1 (by rfl) B.range (pa_cons (pe_ix ix_tup (pe_ix ix_tup (pv 0) pe_int (fun _ _ => rfl)) (pv 1) (fun _ _ => rfl)) pa_nil)) (blkOk_by (N := ["house", "cell", "some", "found", "content", "value"]) (sc := defScope s_stirred) (by decide +kernel)) (fun _ _ _ _ _ => (pg_name (i := 5) sc_stirred.nd rfl (Or.inl rfl))) (fun _ _ _ _ _ => pts_nil) (fun _ _ _ _ _ => (pe_call G_with_value (hr.mono (by omega)) (by rfl) D_with_value.m D_with_value.F.kp D_with_value.b .nil pass0 (pa_cons (pv 4) (pa_cons (pv 1) (pa_cons (pv 5) pa_nil)))))) pa_nil)))))
      (pss_one (ps_ret (pe_call G_as_set (hr.mono (by omega)) (by rfl) D_as_set.m D_as_set.F.kp D_as_set.b .nil pass0 (pa_cons (pv 3) pa_nil)))))), ?_⟩
    have l8 := hg.le8 ho
    have hz := at_sz hc 0
    have hz4 := ho.sz _ (List.mem_of_getElem? hz)
    have bound : ∀ r : List Con, (stirC h cc r).length ≤ r.length * 4 := fun r => stir_len hz4.2 r
    refine sq (st_setL F0 (el_lst eu_nil (fun ds e => by rw [e]; decide)) fun a0 ds0 H1 e1 F1 n1 p1 => ?_)
    subst p1
    refine sq (st_forT (ds := ss.map encC) (fun n env' σ' H' => ∃ a b, env' = [.d (encH h), .d (dN cc), .d (encS ss), .l ((stirC h cc (ss.take n)).map encC), a, b]) F1 (ev_v rfl) (fun H2 e2 => ⟨_, _, rfl⟩) (fun v0 n d v env' σ' H' hd F' hI hv => ?_) (fun env' σ' H' F' hI => ?_))
    · obtain ⟨a, b, rfl⟩ := hI
      rw [List.getElem?_map] at hd
      obtain ⟨x, hx, rfl⟩ := Option.map_eq_some_iff.mp hd
      have hxo := hg.all x (List.mem_of_getElem? hx)
      have hxc := hxo.get hz
      have hn : n < ss.length := (List.getElem?_eq_some_iff.mp hx).1
      have b1 := bound (ss.take n)
      rw [List.length_take] at b1
      refine gN F' hv fun F2 => ?_
      refine st_ext F2 rfl (fun ys e => ?_) (el_mapR (n := h.sizes.getD cc 0) (f := fun v => encC (x.set cc v)) (ev_ix (ev_ix (ev_v rfl) ev_i rfl) (ev_v rfl) (at_N hz)) (by omega) fun v hv => ev_with (ev_v rfl) (ev_v rfl) (ev_v rfl) hxc.2.2 (by rw [hxo.1]; exact Nat.le_trans ho.s3 (by decide))).k fun ys H3 F3 tk e => ?_
      · rw [e, List.length_map, List.length_map, List.length_range]
        omega
      · subst e
        have e : (stirC h cc (ss.take n)).map encC ++ (List.range (h.sizes.getD cc 0)).map (fun v => encC (x.set cc v)) = (stirC h cc (ss.take (n + 1))).map encC := by
          rw [take_snoc hx]
          unfold stirC
          rw [List.flatMap_append, List.map_append, List.flatMap_cons, List.flatMap_nil, List.append_nil, List.map_map]
          rfl
        rw [e] at F3
        exact ⟨_, F3, _, _, rfl⟩
    · obtain ⟨a, b, rfl⟩ := hI
      rw [List.length_map, List.take_length] at F'
      refine st_ret F' (ev_asL (Ps := (· = stirC h cc ss)) ((ek_l rfl).imp fun ds e => ⟨_, e, rfl⟩) fun s' e => ?_) fun v d H1 e1 r1 ⟨s', p1, p2⟩ => k v d H1 e1 r1 (by rw [p2, p1])
      subst e
      have := bound ss
      exact ⟨by omega, _, ho.s1, csm_of ho (stir_all hc hg.all)⟩
theorem ev_stirred {po : Option PenD} {Hb : Hp} {gs : List (V × AV)} {env : List AV} {E : XK} {th tk ts : TE} {h : House} {k : Nat} {s : List Con} (h1 : EvD T po Hb gs env th (encH h)) (h2 : EvD T po Hb gs env tk (dN k)) (h3 : EvD T po Hb gs env ts (encS s)) (ho : HouseOk h) (hk : k < h.sizes.length) (hs : SetG h s) :
    EvD T po Hb gs env (tCall (spStirred T) [] E (tCons th (tCons tk (tCons ts tNil)))) (encS (norm (stirC h k s))) :=
  Ev.one (ev_c (args := fun a : House × Nat × List Con => [.d (encH a.1), .d (dN a.2.1), .d (encS a.2.2)]) (h, k, s) (ea_c h1 (ea_c h2 (ea_c h3 ea_nil))) ⟨ho, hk, hs⟩)
end
end K22
/-! KE2: parts, what is left. -/
namespace K22
open PySem PySem.Spec L2 LamX
/-! ### data that == takes -/
def Sh (n : Nat) (d : PyData) : Prop := d.canLay0 = true ∧ d.depth ≤ n
theorem Sh.shaped {n : Nat} {d : PyData} (h : Sh n d) (hn : n ≤ 64 := by decide) : SeqAt.shaped d = true := by
  unfold SeqAt.shaped
  rw [h.1, decide_eq_true (Nat.le_trans h.2 hn)]
  rfl
theorem sh_all {n : Nat} : ∀ {ds : List PyData}, (∀ d ∈ ds, Sh n d) → PyData.canLayAll0 ds = true ∧ PyData.depthAll ds ≤ n
  | [], _ => ⟨rfl, Nat.zero_le _⟩
  | d :: r, h => by
    obtain ⟨h1, h2⟩ := h d List.mem_cons_self
    obtain ⟨h3, h4⟩ := sh_all fun x hx => h x (List.mem_cons_of_mem _ hx)
    refine ⟨?_, ?_⟩
    · show (PyData.canLay0 d && PyData.canLayAll0 r) = true
      rw [h1, h3]
      rfl
    · show max (PyData.depth d) (PyData.depthAll r) ≤ n
      omega
theorem sh_tup {n : Nat} {ds : List PyData} (h : ∀ d ∈ ds, Sh n d) : Sh (n + 1) (.tuple ds) := ⟨(sh_all h).1, Nat.succ_le_succ (sh_all h).2⟩
theorem sh_lst {n : Nat} {ds : List PyData} (h : ∀ d ∈ ds, Sh n d) : Sh (n + 1) (.list ds) := ⟨(sh_all h).1, Nat.succ_le_succ (sh_all h).2⟩
theorem sh_N (n k : Nat) : Sh n (dN k) := ⟨rfl, Nat.zero_le _⟩
theorem sh_Ns (ns : List Nat) : Sh 1 (dNs ns) := sh_tup fun d hd => by
  obtain ⟨k, _, rfl⟩ := List.mem_map.mp hd
  exact sh_N 0 k
theorem sh_S (s : List Con) : Sh 2 (encS s) := sh_tup fun d hd => by
  obtain ⟨k, _, rfl⟩ := List.mem_map.mp hd
  exact sh_Ns k
theorem eqv_nil (ds : List PyData) : PyData.eqv (.tuple ds) (.tuple []) = ds.isEmpty := by cases ds <;> rfl
section
variable {P : Program} {w : World} {K : PySem.W.Frag} {mg : Str → Option Value} {base : Heap} {T : List (Addr × Str)}
abbrev s_seen_parts : Stmt := topS 13
theorem sc_seen_parts : FnScope ["house", "some", "cell", "found", "value", "part", "content"] ["house", "some", "cell"] (defScope s_seen_parts) := ⟨rfl, rfl, rfl, by decide +kernel, rfl, by decide +kernel, by decide +kernel⟩
abbrev s_left_behind : Stmt := topS 14
theorem sc_left_behind : FnScope ["house", "some", "item", "content"] ["house", "some", "item"] (defScope s_left_behind) := ⟨rfl, rfl, rfl, by decide +kernel, rfl, by decide +kernel, by decide +kernel⟩
abbrev s_known_after : Stmt := topS 15
theorem sc_known_after : FnScope ["house", "some", "items", "item"] ["house", "some", "items"] (defScope s_known_after) := ⟨rfl, rfl, rfl, by decide +kernel, rfl, by decide +kernel, by decide +kernel⟩
abbrev s_told_ways : Stmt := topS 16
theorem sc_told_ways : FnScope ["house", "content", "item", "word", "value"] ["house", "content", "item"] (defScope s_told_ways) := ⟨rfl, rfl, rfl, by decide +kernel, rfl, by decide +kernel, by decide +kernel⟩
abbrev s_go_on : Stmt := topS 19
theorem sc_go_on : FnScope ["house", "route", "place", "some", "item", "nexts", "left", "following"] ["house", "route", "place", "some"] (defScope s_go_on) := ⟨rfl, rfl, rfl, by decide +kernel, rfl, by decide +kernel, by decide +kernel⟩
open Classical in
noncomputable def onEncB {α : Type} (enc : α → PyData) (l : List α) (p : α → Bool) (d : PyData) : Bool := if h : ∃ x, x ∈ l ∧ enc x = d then p h.choose else false
theorem onEncB_at {α : Type} {enc : α → PyData} {l : List α} {p : α → Bool} (hi : ∀ x ∈ l, ∀ y ∈ l, enc x = enc y → p x = p y) {x : α} (hx : x ∈ l) : onEncB enc l p (enc x) = p x := by
  have h : ∃ y, y ∈ l ∧ enc y = enc x := ⟨x, hx, rfl⟩
  unfold onEncB
  rw [dif_pos h]
  exact hi _ h.choose_spec.1 _ hx h.choose_spec.2
/-- [f(x) for x in a tuple if p(x)] -/
theorem el_fmE {α : Type} {enc : α → PyData} {po : Option PenD} {Hb : Hp} {gs : List (V × AV)} {env : List AV} {tl te : TE} {tt : TT} {i : Nat} {l : List α} {f : α → PyData} {p : α → Bool} (hi : ∀ x ∈ l, ∀ y ∈ l, enc x = enc y → f x = f y ∧ p x = p y) (h : EvD T po Hb gs env tl (.tuple (l.map enc))) (hl : l.length < 16777216)
    (ht : ∀ x ∈ l, EvT T po Hb gs (env.set i (.d (enc x))) tt (· = p x)) (he : ∀ x ∈ l, p x = true → EvD T po Hb gs (env.set i (.d (enc x))) te (f x)) : EvL T po Hb gs env (tLc (iTup K tl) (gName i) tt te [i]) (· = (l.filter p).map f) :=
  (el_compT (fun d b => b = onEncB enc l p d) (fun d e => e = onEnc enc l f d) h (by rw [List.length_map]; exact hl) (fun d hd => by
    obtain ⟨x, hx, rfl⟩ := List.mem_map.mp hd
    rw [onEncB_at (fun x hx y hy e => (hi x hx y hy e).2) hx]
    exact ht x hx) (fun d hd hp => by
    obtain ⟨x, hx, rfl⟩ := List.mem_map.mp hd
    rw [onEncB_at (fun x hx y hy e => (hi x hx y hy e).2) hx] at hp
    rw [onEnc_at (fun x hx y hy e => (hi x hx y hy e).1) hx]
    exact (he x hx hp.symm).ev)).imp fun out c => by
    rw [c.fm (p := onEncB enc l p) (f := onEnc enc l f) (fun _ _ e => e) (fun _ _ e => e), List.filter_map, List.map_map]
    have e1 : l.filter (onEncB enc l p ∘ enc) = l.filter p := List.filter_congr fun x hx => onEncB_at (fun x hx y hy e => (hi x hx y hy e).2) hx
    rw [e1]
    exact List.map_congr_left fun x hx => onEnc_at (fun x hx y hy e => (hi x hx y hy e).1) (List.mem_filter.mp hx).1
/-! ### seen_parts -/
theorem saw_g {h : House} {s : List Con} (g : SetG h s) (c v : Nat) : SetG h (sawC s c v) := ⟨fun x hx => g.all x (List.mem_filter.mp hx).1, g.nd.filter _⟩
def partV (s : List Con) (c v : Nat) : List (Nat × List Con) := if sawC s c v = [] then [] else [(v, sawC s c v)]
theorem parted_eq (h : House) (s : List Con) (c : Nat) : partedC h s c = (List.range (h.sizes.getD c 0)).flatMap (partV s c) := by
  unfold partedC
  generalize List.range (h.sizes.getD c 0) = l
  induction l with
  | nil => rfl
  | cons v l ih =>
    rw [List.filterMap_cons, List.flatMap_cons, ih]
    unfold partV
    by_cases e : sawC s c v = []
    · rw [if_pos e, if_pos e]
      rfl
    · rw [if_neg e, if_neg e]
      rfl
theorem el_saw {po : Option PenD} {Hb : Hp} {gs : List (V × AV)} {env : List AV} {tl tc tv : TE} {i c v : Nat} {h : House} {s : List Con} (ho : HouseOk h) (g : SetG h s) (hc : c < h.sizes.length) (h1 : EvD T po Hb gs env tl (encS s)) (hi : i < env.length) (h2 : ∀ x, EvD T po Hb gs (env.set i (.d (encC x))) tc (dN c)) (h3 : ∀ x, EvD T po Hb gs (env.set i (.d (encC x))) tv (dN v)) :
    EvL T po Hb gs env (tLc (iTup K tl) (gName i) (tB (tOp rEq (tOp (rIxT K) (tVar i) tc) tv)) (tVar i) [i]) (· = (sawC s c v).map encC) :=
  el_fmE (enc := encC) (p := fun x => decide (x.getD c 0 = v)) (fun x _ y _ e => by rw [encC_inj e]; exact ⟨rfl, rfl⟩) h1 (by have := g.le8 ho; omega) (fun x hx => (etB (ev_eqI (ev_ix (ev_v (List.getElem?_set_self hi)) (h2 x) (at_N ((g.all x hx).get (at_sz hc 0)).1)) (h3 x))).imp fun b e => by
    rw [e]
    congr 1
    exact propext ⟨fun z => by omega, fun z => by omega⟩) fun x hx _ => ev_v (List.getElem?_set_self hi)
def spParts (T : List (Addr × Str)) : Sp := SpD T (α := House × List Con × Nat) (fun a => [.d (encH a.1), .d (encS a.2.1), .d (dN a.2.2)]) (fun a => HouseOk a.1 ∧ SetG a.1 a.2.1 ∧ a.2.2 < a.1.sizes.length) (fun a d => d = .tuple ((partedC a.1 a.2.1 a.2.2).map encPart))
theorem ok_parts (B : Bi mg) {f : Addr} {fd : FuncData} (D : Df K mg "seen_parts" s_seen_parts f fd ["house", "some", "cell"]) : Cal P w K mg base "seen_parts" s_seen_parts ["house", "some", "cell"] 1 (spParts T) := by
  refine ⟨f, fd, D, D.F.ok sc_seen_parts (fun vs H Q E h => ?_) (fun cdv A outer s H vs Q E hr h => ?_)⟩
  · obtain ⟨a, h1, _⟩ := h
    exact h1.len
  · obtain ⟨⟨h, ss, cc⟩, ⟨ho, hg, hc⟩, F0, k⟩ := SpD.ent (N := ["house", "some", "cell", "found", "value", "part", "content"]) h (fun _ => Nat.le_of_ble_eq_true rfl)
    dsimp only at *
    refine ⟨_, (pss_cons (ps_set (i := 3) sc_seen_parts.nd rfl (Or.inl rfl) (pe_lst pa_nil))
      (pss_cons (ps_for PassesOwn.never rfl (pi_range1 (by rfl) B.range (pa_cons (pe_ix ix_tup (pe_ix ix_tup (pv 0) pe_int (fun _ _ => rfl)) (pv 2) (fun _ _ => rfl)) pa_nil)) (pg_name (i := 4) sc_seen_parts.nd rfl (Or.inr rfl)) (pss_cons (ps_set (i := 5) sc_seen_parts.nd rfl (Or.inl rfl) (pe_tupleOf (by rfl) B.tuple (pe_lc (own := [("content", 6)]) (g := gName 6) rfl sc_seen_parts.nd (pi_tup (pv 1)) (blkOk_by (N := ["house", "some", "cell", "found", "value", "part", "content"]) (sc := defScope s_seen_parts) (by decide +kernel)) (fun _ _ _ _ _ => (pg_name (i := 6) sc_seen_parts.nd rfl (Or.inl rfl))) (fun _ _ _ _ _ => (pts_one (pt_cmpR op_eq (pe_ix (ixT K) (pv 6) (pv 2) (fun _ _ => rfl)) (pv 4) (nomark _)))) (fun _ _ _ _ _ => (pv 6)))))
      (pss_one (ps_if (pt_cmpR (op_neD hr.units) (pv 5) (pe_tup pa_nil) (nomark _)) (pss_one (ps_expr (pe_bm PySem.F.plainAttrs_list PySem.F.slot_list_append PySem.F.type_list_append mt_append (pv 3) (pa_cons (pe_tup (pa_cons (pv 4) (pa_cons (pv 5) pa_nil))) pa_nil)))) pss_nil))))
      (pss_one (ps_ret (pe_tupleOf (by rfl) B.tuple (pv 3)))))), ?_⟩
    have hz := at_sz hc 0
    have hz4 := ho.sz _ (List.mem_of_getElem? hz)
    refine sq (st_setL F0 (el_lst eu_nil (fun ds e => by rw [e]; decide)) fun a0 ds0 H1 e1 F1 n1 p1 => ?_)
    subst p1
    have few : ∀ n, n ≤ 4 → (((List.range n).flatMap (partV ss cc)).map encPart).length ≤ 4 := fun n hn => by
      rw [List.length_map]
      have go : ∀ m : Nat, ((List.range m).flatMap (partV ss cc)).length ≤ m := by
        intro m
        induction m with
        | zero => simp
        | succ m ih =>
          rw [List.range_succ, List.flatMap_append, List.length_append, List.flatMap_cons, List.flatMap_nil, List.append_nil]
          have : (partV ss cc m).length ≤ 1 := by unfold partV; split <;> simp
          omega
      have := go n
      omega
    refine sq (st_forR (Pd := (· = dN (h.sizes.getD cc 0))) (fun n k env' σ' H' => ∃ a b c, env' = [.d (encH h), .d (encS ss), .d (dN cc), .l (((List.range k).flatMap (partV ss cc)).map encPart), a, b, c]) F1 (ev_ix (ev_ix (ev_v rfl) ev_i rfl) (ev_v rfl) (at_N hz)).ev (fun d e => ⟨_, e, by omega⟩) (fun n H2 e2 pn => ⟨_, _, _, rfl⟩) (fun n j env' σ' H' pn hj F' hI => ?_) (fun n env' σ' H' pn F' hI => ?_))
    · obtain ⟨a, b, c, rfl⟩ := hI
      have en : n = h.sizes.getD cc 0 := by injection pn with e; omega
      subst en
      refine gN F' (.int _) fun F2 => ?_
      refine sq (st_set F2 (ev_tuple (K := K) (el_saw (c := cc) (v := j) ho hg hc (ev_v rfl) (Nat.le_of_ble_eq_true rfl) (fun x => ev_v rfl) (fun x => ev_v rfl)).k) fun v3 d3 H3 e3 F3 ⟨ds, p3, p4⟩ => ?_)
      subst p4
      subst p3
      have nxt : ∀ {l : List (Nat × List Con)}, partV ss cc j = l → ((List.range j).flatMap (partV ss cc)).map encPart ++ l.map encPart = ((List.range (j + 1)).flatMap (partV ss cc)).map encPart := fun {l} e => by
        rw [List.range_succ, List.flatMap_append, List.map_append, List.flatMap_cons, List.flatMap_nil, List.append_nil, e]
      refine st_if (Pb := fun b => b = !(sawC ss cc j).isEmpty) F3 ((et (ev_neD (ev_v rfl) (ev_tup eu_nil) (sh_S _).shaped (by decide +kernel))).imp fun b e => by rw [e, eqv_nil]; cases sawC ss cc j <;> rfl) (fun H4 e4 F4 p4 => ?_) (fun H4 e4 F4 p4 => ?_)
      · have ne : sawC ss cc j ≠ [] := fun e => by rw [e] at p4; cases p4
        refine st_app F4 rfl (by have := few j (by omega); omega) (ev_tup (eu_c (ev_v rfl) (eu_c (ev_v rfl) eu_nil))).ev fun d5 H5 F5 tk p5 => ?_
        subst p5
        have e := nxt (l := [(j, sawC ss cc j)]) (by unfold partV; rw [if_neg ne])
        have F5' : Fr T none H [] [.d (encH h), .d (encS ss), .d (dN cc), .l (((List.range j).flatMap (partV ss cc)).map encPart ++ [(j, sawC ss cc j)].map encPart), _, _, _] H5 _ := F5
        rw [e] at F5'
        exact ⟨_, F5', _, _, _, rfl⟩
      · have em : sawC ss cc j = [] := by
          cases e : sawC ss cc j with
          | nil => rfl
          | cons _ _ => rw [e] at p4; cases p4
        have e := nxt (l := []) (by unfold partV; rw [if_pos em])
        rw [List.map_nil, List.append_nil] at e
        have F5' : Fr T none H [] [.d (encH h), .d (encS ss), .d (dN cc), .l (((List.range j).flatMap (partV ss cc)).map encPart), _, _, _] H4 _ := F4
        rw [e] at F5'
        exact ⟨_, F5', _, _, _, rfl⟩
    · obtain ⟨a, b, c, rfl⟩ := hI
      have en : n = h.sizes.getD cc 0 := by injection pn with e; omega
      subst en
      refine st_ret F' (ev_tuple (K := K) (ek_l rfl)) fun v d H4 e4 r4 ⟨ds, p1, p2⟩ => k v d H4 e4 r4 ?_
      rw [p2, p1, parted_eq]
theorem ev_ans {po : Option PenD} {Hb : Hp} {gs : List (V × AV)} {env : List AV} {E : XK} {th tq tx : TE} {h : House} {q : Nat} {x : Con} (h1 : EvD T po Hb gs env th (encH h)) (h2 : EvD T po Hb gs env tq (dN q)) (h3 : EvD T po Hb gs env tx (encC x)) (ho : HouseOk h) (hq : q < h.qs.length) (hx : ConOk h.sizes x) :
    EvD T po Hb gs env (tOp (rIxT K) (tCall (spAsked T) [] E (tCons th (tCons tq (tCons tx tNil)))) (tC (.int 1))) (dN (ansC h q x)) := Ev.one fun σ H1 F1 Q1 q1 => by
  refine ev_c (args := fun a : House × Nat × Con => [.d (encH a.1), .d (dN a.2.1), .d (encC a.2.2)]) (h, q, x) (ea_c h1 (ea_c h2 (ea_c h3 ea_nil))) ⟨ho, hq, hx⟩ σ H1 F1 _ fun v d H2 e2 F2 r2 ⟨z, p2⟩ => ?_
  subst p2
  obtain ⟨a, xs, rfl, h1, h2⟩ := r2.t
  obtain ⟨u, h3, h4⟩ := h2.at (i := 1) rfl
  exact ⟨a, xs, 1, u, rfl, rfl, SqT.of h1, h3, q1 u _ H2 e2 F2 h4 rfl⟩
/-! ### left_behind, known_after -/
def UEOk (h : House) : UE → Prop
  | .item i => ItemOk h i
  | .saw c _ => c < h.sizes.length
  | .to _ => True
def behU (h : House) : UE → List Con → List Con
  | .item i, s => behindC h i s
  | .saw c v, s => sawC s c v
  | .to _, s => s
theorem beh_g {h : House} (ho : HouseOk h) {i : Item} (hi : ItemOk h i) {s : List Con} (g : SetG h s) : SetG h (behindC h i s) := by
  cases i with
  | deed k => exact norm_g ho (done_all ho hi g.all)
  | perhaps k => exact norm_g ho fun x hx => (List.mem_append.mp hx).elim (g.all x) (done_all ho hi g.all x)
  | stir c => exact norm_g ho (stir_all hi g.all)
  | ask q => exact g
  | rest => exact g
theorem behU_g {h : House} (ho : HouseOk h) {u : UE} (hu : UEOk h u) {s : List Con} (g : SetG h s) : SetG h (behU h u s) := by
  cases u with
  | item i => exact beh_g ho hu g
  | saw c v => exact saw_g g c v
  | to p => exact g
def spLeft (T : List (Addr × Str)) : Sp := SpD T (α := House × List Con × UE) (fun a => [.d (encH a.1), .d (encS a.2.1), .d (encUE a.2.2)]) (fun a => HouseOk a.1 ∧ SetG a.1 a.2.1 ∧ UEOk a.1 a.2.2) (fun a d => d = encS (behU a.1 a.2.2 a.2.1))
theorem ok_left (B : Bi mg) {f : Addr} {fd : FuncData} (D : Df K mg "left_behind" s_left_behind f fd ["house", "some", "item"]) (C1 : Cal P w K mg base "image" s_image ["house", "deed", "some"] 8 (spImage T)) (C2 : Cal P w K mg base "maybe" s_maybe ["house", "deed", "some"] 9 (spMaybe T)) (C3 : Cal P w K mg base "stirred" s_stirred ["house", "cell", "some"] 2 (spStirred T)) :
    Cal P w K mg base "left_behind" s_left_behind ["house", "some", "item"] 10 (spLeft T) := by
  obtain ⟨fa, fda, D_image, G_image⟩ := C1
  obtain ⟨fb, fdb, D_maybe, G_maybe⟩ := C2
  obtain ⟨fc, fdc, D_stirred, G_stirred⟩ := C3
  refine ⟨f, fd, D, D.F.ok sc_left_behind (fun vs H Q E h => ?_) (fun cdv A outer s H vs Q E hr h => ?_)⟩
  · obtain ⟨a, h1, _⟩ := h
    exact h1.len
  · obtain ⟨⟨h, ss, u⟩, ⟨ho, hg, hu⟩, F0, k⟩ := SpD.ent (N := ["house", "some", "item", "content"]) h (fun _ => Nat.le_of_ble_eq_true rfl)
    dsimp only at *
    refine ⟨_, (pss_cons (ps_if (pt_cmpR op_eq (pe_ix ix_tup (pv 2) pe_int (fun _ _ => rfl)) pe_str (nomark _)) (pss_one (ps_ret (pe_tupleOf (by rfl) B.tuple (pe_lc (own := [("content", 3)]) (g := gName 3) rfl sc_left_behind.nd (pi_tup (pv 1)) (blkOk_by (N := ["house", "some", "item", "content"]) (sc := defScope s_left_behind) (by decide +kernel)) (fun _ _ _ _ _ => (pg_name (i := 3) sc_left_behind.nd rfl (Or.inl rfl))) (fun _ _ _ _ _ => (pts_one (pt_cmpR op_eq (pe_ix (ixT K) (pv 3) (pe_ix (ixT K) (pv 2) pe_int (fun _ _ => rfl)) (fun _ _ => rfl)) (pe_ix (ixT K) (pv 2) pe_int (fun _ _ => rfl)) (nomark _)))) (fun _ _ _ _ _ => (pv 3)))))) pss_nil)
      (pss_cons (ps_if (pt_cmpR op_eq (pe_ix ix_tup (pv 2) pe_int (fun _ _ => rfl)) pe_str (nomark _)) (pss_one (ps_ret (pe_call G_image (hr.mono (by omega)) (by rfl) D_image.m D_image.F.kp D_image.b .nil pass0 (pa_cons (pv 0) (pa_cons (pe_ix ix_tup (pv 2) pe_int (fun _ _ => rfl)) (pa_cons (pv 1) pa_nil)))))) pss_nil)
      (pss_cons (ps_if (pt_cmpR op_eq (pe_ix ix_tup (pv 2) pe_int (fun _ _ => rfl)) pe_str (nomark _)) (pss_one (ps_ret (pe_call G_maybe (hr.mono (by omega)) (by rfl) D_maybe.m D_maybe.F.kp D_maybe.b .nil pass0 (pa_cons (pv 0) (pa_cons (pe_ix ix_tup (pv 2) pe_int (fun _ _ => rfl)) (pa_cons (pv 1) pa_nil)))))) pss_nil)
      (pss_one (ps_ret (pe_ifExp (pt_cmpR op_eq (pe_ix ix_tup (pv 2) pe_int (fun _ _ => rfl)) pe_str (nomark _)) (pe_call G_stirred (hr.mono (by omega)) (by rfl) D_stirred.m D_stirred.F.kp D_stirred.b .nil pass0 (pa_cons (pv 0) (pa_cons (pe_ix ix_tup (pv 2) pe_int (fun _ _ => rfl)) (pa_cons (pv 1) pa_nil)))) (pv 1))))))), ?_⟩
    have l8 := hg.le8 ho
    cases u with
    | saw c v =>
      refine sq (st_yes F0 (et (ev_eqStrB (b := true) (ev_ix (ds := [.str "saw", dN c, dN v]) (ev_v rfl) ev_i rfl) ev_s (by decide +kernel))) fun H1 e1 F1 => ?_)
      exact st_ret F1 (ev_tuple (K := K) (el_saw (c := c) (v := v) ho hg hu (ev_v rfl) (Nat.le_of_ble_eq_true rfl) (fun x => ev_ix (ds := [.str "saw", dN c, dN v]) (ev_v rfl) ev_i rfl) (fun x => ev_ix (ds := [.str "saw", dN c, dN v]) (ev_v rfl) ev_i rfl)).k) fun v d H4 e4 r4 ⟨ds, p1, p2⟩ => k v d H4 e4 r4 (by rw [p2, p1]; rfl)
    | to p =>
      refine sq (st_no F0 (et (ev_eqStrB (b := false) (ev_ix (ds := [.str "to", dN p]) (ev_v rfl) ev_i rfl) ev_s (by decide +kernel))) fun H1 e1 F1 => ?_)
      refine sq (st_no F1 (et (ev_eqStrB (b := false) (ev_ix (ds := [.str "to", dN p]) (ev_v rfl) ev_i rfl) ev_s (by decide +kernel))) fun H2 e2 F2 => ?_)
      refine sq (st_no F2 (et (ev_eqStrB (b := false) (ev_ix (ds := [.str "to", dN p]) (ev_v rfl) ev_i rfl) ev_s (by decide +kernel))) fun H3 e3 F3 => ?_)
      exact st_ret F3 (ev_if (et (ev_eqStrB (b := false) (ev_ix (ds := [.str "to", dN p]) (ev_v rfl) ev_i rfl) ev_s (by decide +kernel))) (fun z => nomatch z) (fun _ => (ev_v rfl).ev)) fun v d H4 e4 r4 p4 => k v d H4 e4 r4 p4
    | item i =>
      cases i with
      | deed kk =>
        refine sq (st_no F0 (et (ev_eqStrB (b := false) (ev_ix (ds := [.str "deed", dN kk]) (ev_v rfl) ev_i rfl) ev_s (by decide +kernel))) fun H1 e1 F1 => ?_)
        refine sq (st_yes F1 (et (ev_eqStrB (b := true) (ev_ix (ds := [.str "deed", dN kk]) (ev_v rfl) ev_i rfl) ev_s (by decide +kernel))) fun H2 e2 F2 => ?_)
        exact st_ret F2 (ev_image (ev_v rfl) (ev_ix (ds := [.str "deed", dN kk]) (ev_v rfl) ev_i rfl) (ev_v rfl) ho hu hg).ev fun v d H4 e4 r4 p4 => k v d H4 e4 r4 p4
      | perhaps kk =>
        refine sq (st_no F0 (et (ev_eqStrB (b := false) (ev_ix (ds := [.str "perhaps", dN kk]) (ev_v rfl) ev_i rfl) ev_s (by decide +kernel))) fun H1 e1 F1 => ?_)
        refine sq (st_no F1 (et (ev_eqStrB (b := false) (ev_ix (ds := [.str "perhaps", dN kk]) (ev_v rfl) ev_i rfl) ev_s (by decide +kernel))) fun H2 e2 F2 => ?_)
        refine sq (st_yes F2 (et (ev_eqStrB (b := true) (ev_ix (ds := [.str "perhaps", dN kk]) (ev_v rfl) ev_i rfl) ev_s (by decide +kernel))) fun H3 e3 F3 => ?_)
        exact st_ret F3 (ev_maybe (ev_v rfl) (ev_ix (ds := [.str "perhaps", dN kk]) (ev_v rfl) ev_i rfl) (ev_v rfl) ho hu hg).ev fun v d H4 e4 r4 p4 => k v d H4 e4 r4 p4
      | stir c =>
        refine sq (st_no F0 (et (ev_eqStrB (b := false) (ev_ix (ds := [.str "stir", dN c]) (ev_v rfl) ev_i rfl) ev_s (by decide +kernel))) fun H1 e1 F1 => ?_)
        refine sq (st_no F1 (et (ev_eqStrB (b := false) (ev_ix (ds := [.str "stir", dN c]) (ev_v rfl) ev_i rfl) ev_s (by decide +kernel))) fun H2 e2 F2 => ?_)
        refine sq (st_no F2 (et (ev_eqStrB (b := false) (ev_ix (ds := [.str "stir", dN c]) (ev_v rfl) ev_i rfl) ev_s (by decide +kernel))) fun H3 e3 F3 => ?_)
        exact st_ret F3 (ev_if (et (ev_eqStrB (b := true) (ev_ix (ds := [.str "stir", dN c]) (ev_v rfl) ev_i rfl) ev_s (by decide +kernel))) (fun _ => (ev_stirred (ev_v rfl) (ev_ix (ds := [.str "stir", dN c]) (ev_v rfl) ev_i rfl) (ev_v rfl) ho hu hg).ev) (fun z => nomatch z)) fun v d H4 e4 r4 p4 => k v d H4 e4 r4 p4
      | ask q =>
        refine sq (st_no F0 (et (ev_eqStrB (b := false) (ev_ix (ds := [.str "ask", dN q]) (ev_v rfl) ev_i rfl) ev_s (by decide +kernel))) fun H1 e1 F1 => ?_)
        refine sq (st_no F1 (et (ev_eqStrB (b := false) (ev_ix (ds := [.str "ask", dN q]) (ev_v rfl) ev_i rfl) ev_s (by decide +kernel))) fun H2 e2 F2 => ?_)
        refine sq (st_no F2 (et (ev_eqStrB (b := false) (ev_ix (ds := [.str "ask", dN q]) (ev_v rfl) ev_i rfl) ev_s (by decide +kernel))) fun H3 e3 F3 => ?_)
        exact st_ret F3 (ev_if (et (ev_eqStrB (b := false) (ev_ix (ds := [.str "ask", dN q]) (ev_v rfl) ev_i rfl) ev_s (by decide +kernel))) (fun z => nomatch z) (fun _ => (ev_v rfl).ev)) fun v d H4 e4 r4 p4 => k v d H4 e4 r4 p4
      | rest =>
        refine sq (st_no F0 (et (ev_eqStrB (b := false) (ev_ix (ds := [.str "rest"]) (ev_v rfl) ev_i rfl) ev_s (by decide +kernel))) fun H1 e1 F1 => ?_)
        refine sq (st_no F1 (et (ev_eqStrB (b := false) (ev_ix (ds := [.str "rest"]) (ev_v rfl) ev_i rfl) ev_s (by decide +kernel))) fun H2 e2 F2 => ?_)
        refine sq (st_no F2 (et (ev_eqStrB (b := false) (ev_ix (ds := [.str "rest"]) (ev_v rfl) ev_i rfl) ev_s (by decide +kernel))) fun H3 e3 F3 => ?_)
        exact st_ret F3 (ev_if (et (ev_eqStrB (b := false) (ev_ix (ds := [.str "rest"]) (ev_v rfl) ev_i rfl) ev_s (by decide +kernel))) (fun z => nomatch z) (fun _ => (ev_v rfl).ev)) fun v d H4 e4 r4 p4 => k v d H4 e4 r4 p4
theorem ev_left {po : Option PenD} {Hb : Hp} {gs : List (V × AV)} {env : List AV} {E : XK} {th ts ti : TE} {h : House} {s : List Con} {u : UE} (h1 : EvD T po Hb gs env th (encH h)) (h2 : EvD T po Hb gs env ts (encS s)) (h3 : EvD T po Hb gs env ti (encUE u)) (ho : HouseOk h) (hs : SetG h s) (hu : UEOk h u) :
    EvD T po Hb gs env (tCall (spLeft T) [] E (tCons th (tCons ts (tCons ti tNil)))) (encS (behU h u s)) :=
  Ev.one (ev_c (args := fun a : House × List Con × UE => [.d (encH a.1), .d (encS a.2.1), .d (encUE a.2.2)]) (h, s, u) (ea_c h1 (ea_c h2 (ea_c h3 ea_nil))) ⟨ho, hs, hu⟩)
def knownU (h : House) (us : List UE) (s : List Con) : List Con := us.foldl (fun s u => behU h u s) s
theorem known_g {h : House} (ho : HouseOk h) : ∀ {us : List UE} {s : List Con}, (∀ u ∈ us, UEOk h u) → SetG h s → SetG h (knownU h us s)
  | [], _, _, g => g
  | u :: r, s, hu, g => known_g ho (us := r) (fun x hx => hu x (List.mem_cons_of_mem _ hx)) (behU_g ho (hu u List.mem_cons_self) g)
def spKnown (T : List (Addr × Str)) : Sp := SpD T (α := House × List Con × List UE) (fun a => [.d (encH a.1), .d (encS a.2.1), .d (encUEs a.2.2)]) (fun a => HouseOk a.1 ∧ SetG a.1 a.2.1 ∧ ∀ u ∈ a.2.2, UEOk a.1 u) (fun a d => d = encS (knownU a.1 a.2.2 a.2.1))
theorem ok_known {f : Addr} {fd : FuncData} (D : Df K mg "known_after" s_known_after f fd ["house", "some", "items"]) (C1 : Cal P w K mg base "left_behind" s_left_behind ["house", "some", "item"] 10 (spLeft T)) : Cal P w K mg base "known_after" s_known_after ["house", "some", "items"] 11 (spKnown T) := by
  obtain ⟨fa, fda, D_left_behind, G_left_behind⟩ := C1
  refine ⟨f, fd, D, D.F.ok sc_known_after (fun vs H Q E h => ?_) (fun cdv A outer s H vs Q E hr h => ?_)⟩
  · obtain ⟨a, h1, _⟩ := h
    exact h1.len
  · obtain ⟨⟨h, ss, us⟩, ⟨ho, hg, hu⟩, F0, k⟩ := SpD.ent (N := ["house", "some", "items", "item"]) h (fun _ => Nat.le_of_ble_eq_true rfl)
    dsimp only at *
    refine ⟨_, (pss_cons (ps_for PassesOwn.never rfl (pi_tup (pv 2)) (pg_name (i := 3) sc_known_after.nd rfl (Or.inl rfl)) (pss_one (ps_set (i := 1) sc_known_after.nd rfl (Or.inl rfl) (pe_call G_left_behind (hr.mono (by omega)) (by rfl) D_left_behind.m D_left_behind.F.kp D_left_behind.b .nil pass0 (pa_cons (pv 0) (pa_cons (pv 1) (pa_cons (pv 3) pa_nil)))))))
      (pss_one (ps_ret (pv 1)))), ?_⟩
    refine sq (st_forT (ds := us.map encUE) (fun n env' σ' H' => ∃ a, env' = [.d (encH h), .d (encS (knownU h (us.take n) ss)), .d (encUEs us), a]) F0 (ev_v rfl) (fun H2 e2 => ⟨_, rfl⟩) (fun v0 n d v env' σ' H' hd F' hI hv => ?_) (fun env' σ' H' F' hI => ?_))
    · obtain ⟨a, rfl⟩ := hI
      rw [List.getElem?_map] at hd
      obtain ⟨u, hu1, rfl⟩ := Option.map_eq_some_iff.mp hd
      refine gN F' hv fun F2 => ?_
      refine st_set F2 (ev_left (ev_v rfl) (ev_v rfl) (ev_v rfl) ho (known_g ho (fun x hx => hu x (List.mem_of_mem_take hx)) hg) (hu u (List.mem_of_getElem? hu1))).ev fun v3 d3 H3 e3 F3 p3 => ?_
      have e : behU h u (knownU h (us.take n) ss) = knownU h (us.take (n + 1)) ss := by
        rw [take_snoc hu1]
        unfold knownU
        rw [List.foldl_append]
        rfl
      rw [e] at p3
      subst p3
      exact ⟨_, F3, _, rfl⟩
    · obtain ⟨a, rfl⟩ := hI
      rw [List.length_map, List.take_length] at F'
      exact st_ret F' (ev_v rfl).ev fun v d H4 e4 r4 p4 => k v d H4 e4 r4 p4
/-! ### told_ways -/
def toldU (h : House) (x : Con) : UE → List (Con × TEv)
  | .item (.deed k) => [(doneC h k x, .deed k)]
  | .item (.perhaps k) => [(x, .perhaps k 0), (doneC h k x, .perhaps k 1)]
  | .item (.stir c) => (List.range (h.sizes.getD c 0)).map fun v => (x.set c v, .stir c v)
  | .item (.ask q) => [(x, .ask q (ansC h q x))]
  | .item .rest => [(x, .rest)]
  | .saw c v => if x.getD c 0 = v then [(x, .saw c v)] else []
  | .to p => [(x, .to p)]
abbrev encBT (p : Con × TEv) : PyData := .tuple [encC p.1, encTE p.2]
def spTold (T : List (Addr × Str)) : Sp := SpL T (α := House × Con × UE) (fun a => [.d (encH a.1), .d (encC a.2.1), .d (encUE a.2.2)]) (fun a => HouseOk a.1 ∧ ConOk a.1.sizes a.2.1 ∧ UEOk a.1 a.2.2) (fun a ds => ds = (toldU a.1 a.2.1 a.2.2).map encBT)
theorem ok_told (B : Bi mg) {f : Addr} {fd : FuncData} (D : Df K mg "told_ways" s_told_ways f fd ["house", "content", "item"]) (C1 : Cal P w K mg base "carried" s_carried ["house", "deed", "content"] 7 (spCarried T)) (C2 : Cal P w K mg base "with_value" s_with_value ["content", "cell", "value"] 1 (spWith T)) (C3 : Cal P w K mg base "asked" s_asked ["house", "question", "content"] 1 (spAsked T)) :
    Cal P w K mg base "told_ways" s_told_ways ["house", "content", "item"] 8 (spTold T) := by
  obtain ⟨fa, fda, D_carried, G_carried⟩ := C1
  obtain ⟨fb, fdb, D_with_value, G_with_value⟩ := C2
  obtain ⟨fc, fdc, D_asked, G_asked⟩ := C3
  refine ⟨f, fd, D, D.F.ok sc_told_ways (fun vs H Q E h => ?_) (fun cdv A outer s H vs Q E hr h => ?_)⟩
  · obtain ⟨a, h1, _⟩ := h
    exact h1.len
  · obtain ⟨⟨h, x, u⟩, ⟨ho, hx, hu⟩, F0, k⟩ := SpL.ent (N := ["house", "content", "item", "word", "value"]) h (fun _ => Nat.le_of_ble_eq_true rfl)
    dsimp only at *
    refine ⟨_, (pss_cons (ps_set (i := 3) sc_told_ways.nd rfl (Or.inl rfl) (pe_ix ix_tup (pv 2) pe_int (fun _ _ => rfl)))
      (pss_cons (ps_if (pt_cmpR op_eq (pv 3) pe_str (nomark _)) (pss_one (ps_ret (pe_lst (pa_cons (pe_tup (pa_cons (pe_call G_carried (hr.mono (by omega)) (by rfl) D_carried.m D_carried.F.kp D_carried.b .nil pass0 (pa_cons (pv 0) (pa_cons (pe_ix ix_tup (pv 2) pe_int (fun _ _ => rfl)) (pa_cons (pv 1) pa_nil)))) (pa_cons (pv 2) pa_nil))) pa_nil)))) pss_nil)
      (pss_cons (ps_if (pt_cmpR op_eq (pv 3) pe_str (nomark _)) (pss_one (ps_ret (pe_lst (pa_cons (pe_tup (pa_cons (pv 1) (pa_cons (pe_op op_catA (pv 2) (pe_tup (pa_cons pe_int pa_nil))) pa_nil))) (pa_cons (pe_tup (pa_cons (pe_call G_carried (hr.mono (by omega)) (by rfl) D_carried.m D_carried.F.kp D_carried.b .nil pass0 (pa_cons (pv 0) (pa_cons (pe_ix ix_tup (pv 2) pe_int (fun _ _ => rfl)) (pa_cons (pv 1) pa_nil)))) (pa_cons (pe_op op_catA (pv 2) (pe_tup (pa_cons pe_int pa_nil))) pa_nil))) pa_nil))))) pss_nil)
      (pss_cons (ps_if (pt_cmpR op_eq (pv 3) pe_str (nomark _)) (pss_one (ps_ret (pe_lc (own := [("value", 4)]) (g := gName 4) rfl sc_told_ways.nd (pi_range1 (by rfl) B.range (pa_cons (pe_ix ix_tup (pe_ix ix_tup (pv 0) pe_int (fun _ _ => rfl)) (pe_ix ix_tup (pv 2) pe_int (fun _ _ => rfl)) (fun _ _ => rfl)) pa_nil)) (blkOk_by (N := ["house", "content", "item", "word", "value"]) (sc := defScope s_told_ways) (by decide +kernel)) (fun _ _ _ _ _ => (pg_name (i := 4) sc_told_ways.nd rfl (Or.inl rfl))) (fun _ _ _ _ _ => pts_nil) (fun _ _ _ _ _ => (pe_tup (pa_cons (pe_call G_with_value (hr.mono (by omega)) (by rfl) D_with_value.m D_with_value.F.kp D_with_value.b .nil pass0 (pa_cons (pv 1) (pa_cons (pe_ix (ixT K) (pv 2) pe_int (fun _ _ => rfl)) (pa_cons (pv 4) pa_nil)))) (pa_cons (pe_op (catT K) (pv 2) (pe_tup (pa_cons (pv 4) pa_nil))) pa_nil))))))) pss_nil)
      (pss_cons (ps_if (pt_cmpR op_eq (pv 3) pe_str (nomark _)) (pss_one (ps_ret (pe_ifExp (pt_cmpR op_eq (pe_ix ix_tup (pv 1) (pe_ix ix_tup (pv 2) pe_int (fun _ _ => rfl)) (fun _ _ => rfl)) (pe_ix ix_tup (pv 2) pe_int (fun _ _ => rfl)) (nomark _)) (pe_lst (pa_cons (pe_tup (pa_cons (pv 1) (pa_cons (pv 2) pa_nil))) pa_nil)) (pe_lst pa_nil)))) pss_nil)
      (pss_one (ps_ret (pe_lst (pa_cons (pe_tup (pa_cons (pv 1) (pa_cons (pe_ifExp (pt_cmpR op_eq (pv 3) pe_str (nomark _)) (pe_op op_catA (pv 2) (pe_tup (pa_cons (pe_ix ix_tup (pe_call G_asked (hr.mono (by omega)) (by rfl) D_asked.m D_asked.F.kp D_asked.b .nil pass0 (pa_cons (pv 0) (pa_cons (pe_ix ix_tup (pv 2) pe_int (fun _ _ => rfl)) (pa_cons (pv 1) pa_nil)))) pe_int (fun _ _ => rfl)) pa_nil))) (pv 2)) pa_nil))) pa_nil))))))))), ?_⟩
    have hxl : x.length ≤ 1000 := by rw [hx.1]; exact Nat.le_trans ho.s3 (by decide)
    have one : ∀ {gs : List (V × AV)} {env : List AV} {te : TE} {d : PyData}, EvD T none H gs env te d → EvL T none H gs env (tLst (tCons te tNil)) (· = [d]) := fun h => el_lst (eu_c h eu_nil) fun ds e => by rw [e]; exact Nat.le_of_ble_eq_true rfl
    have bt : ∀ {gs : List (V × AV)} {env : List AV} {ta tb : TE} {d e : PyData}, EvD T none H gs env ta d → EvD T none H gs env tb e → EvD T none H gs env (tTup (tCons ta (tCons tb tNil))) (.tuple [d, e]) := fun h1 h2 => ev_tup (eu_c h1 (eu_c h2 eu_nil))
    cases u with
    | saw c v =>
      have hxc := hx.get (at_sz hu 0)
      refine sq (st_set F0 (ev_ix (ds := [.str "saw", dN c, dN v]) (ev_v rfl) ev_i rfl).ev fun v1 d1 H1 e1 F1 p1 => ?_)
      subst p1
      dsimp only
      refine sq (st_no F1 (et (ev_eqStrB (b := false) (ev_v rfl) ev_s (by decide +kernel))) fun H2 e2 F2 => ?_)
      refine sq (st_no F2 (et (ev_eqStrB (b := false) (ev_v rfl) ev_s (by decide +kernel))) fun H3 e3 F3 => ?_)
      refine sq (st_no F3 (et (ev_eqStrB (b := false) (ev_v rfl) ev_s (by decide +kernel))) fun H4 e4 F4 => ?_)
      refine sq (st_yes F4 (et (ev_eqStrB (b := true) (ev_v rfl) ev_s (by decide +kernel))) fun H5 e5 F5 => ?_)
      refine st_retL F5 (el_if (Pb := fun b => b = decide ((x.getD c 0 : Int) = (v : Int))) (Pl := fun ds => ds = (toldU h x (.saw c v)).map encBT) (et (ev_eqI (ev_ix (ev_v rfl) (ev_ix (ds := [.str "saw", dN c, dN v]) (ev_v rfl) ev_i rfl) (at_N hxc.1)) (ev_ix (ds := [.str "saw", dN c, dN v]) (ev_v rfl) ev_i rfl))) (fun p => (one (bt (ev_v rfl) (ev_v rfl))).imp fun ds e => ?_) fun p => (el_lst eu_nil fun ds e => by rw [e]; decide).imp fun ds e => ?_) fun a ws ds H6 e6 n6 l6 r6 p6 => k a ws ds H6 e6 n6 l6 r6 p6
      · have q : x.getD c 0 = v := by have := of_decide_eq_true p.symm; omega
        rw [e, toldU, if_pos q]
        rfl
      · have q : ¬ x.getD c 0 = v := by have := of_decide_eq_false p.symm; omega
        rw [e, toldU, if_neg q]
        rfl
    | to p =>
      refine sq (st_set F0 (ev_ix (ds := [.str "to", dN p]) (ev_v rfl) ev_i rfl).ev fun v1 d1 H1 e1 F1 p1 => ?_)
      subst p1
      dsimp only
      refine sq (st_no F1 (et (ev_eqStrB (b := false) (ev_v rfl) ev_s (by decide +kernel))) fun H2 e2 F2 => ?_)
      refine sq (st_no F2 (et (ev_eqStrB (b := false) (ev_v rfl) ev_s (by decide +kernel))) fun H3 e3 F3 => ?_)
      refine sq (st_no F3 (et (ev_eqStrB (b := false) (ev_v rfl) ev_s (by decide +kernel))) fun H4 e4 F4 => ?_)
      refine sq (st_no F4 (et (ev_eqStrB (b := false) (ev_v rfl) ev_s (by decide +kernel))) fun H5 e5 F5 => ?_)
      exact st_retL F5 (one (bt (ev_v rfl) (Ev.one (ev_if (et (ev_eqStrB (b := false) (ev_v rfl) ev_s (by decide +kernel))) (fun z => nomatch z) (fun _ => (ev_v rfl).ev))))) fun a ws ds H6 e6 n6 l6 r6 p6 => k a ws ds H6 e6 n6 l6 r6 p6
    | item i =>
      cases i with
      | deed kk =>
        refine sq (st_set F0 (ev_ix (ds := [.str "deed", dN kk]) (ev_v rfl) ev_i rfl).ev fun v1 d1 H1 e1 F1 p1 => ?_)
        subst p1
        dsimp only
        refine sq (st_yes F1 (et (ev_eqStrB (b := true) (ev_v rfl) ev_s (by decide +kernel))) fun H2 e2 F2 => ?_)
        exact st_retL F2 (one (bt (ev_car (ev_v rfl) (ev_ix (ds := [.str "deed", dN kk]) (ev_v rfl) ev_i rfl) (ev_v rfl) ho hu hx) (ev_v rfl))) fun a ws ds H6 e6 n6 l6 r6 p6 => k a ws ds H6 e6 n6 l6 r6 p6
      | perhaps kk =>
        refine sq (st_set F0 (ev_ix (ds := [.str "perhaps", dN kk]) (ev_v rfl) ev_i rfl).ev fun v1 d1 H1 e1 F1 p1 => ?_)
        subst p1
        dsimp only
        refine sq (st_no F1 (et (ev_eqStrB (b := false) (ev_v rfl) ev_s (by decide +kernel))) fun H2 e2 F2 => ?_)
        refine sq (st_yes F2 (et (ev_eqStrB (b := true) (ev_v rfl) ev_s (by decide +kernel))) fun H3 e3 F3 => ?_)
        exact st_retL F3 (el_lst (eu_c (bt (ev_v rfl) (ev_cat (xs := [.str "perhaps", dN kk]) (ev_v rfl) (ev_tup (eu_c ev_i eu_nil)) (Nat.le_of_ble_eq_true rfl))) (eu_c (bt (ev_car (ev_v rfl) (ev_ix (ds := [.str "perhaps", dN kk]) (ev_v rfl) ev_i rfl) (ev_v rfl) ho hu hx) (ev_cat (xs := [.str "perhaps", dN kk]) (ev_v rfl) (ev_tup (eu_c ev_i eu_nil)) (Nat.le_of_ble_eq_true rfl))) eu_nil)) fun ds e => by rw [e]; exact Nat.le_of_ble_eq_true rfl) fun a ws ds H6 e6 n6 l6 r6 p6 => k a ws ds H6 e6 n6 l6 r6 p6
      | stir c =>
        have hz := at_sz hu 0
        have hz4 := ho.sz _ (List.mem_of_getElem? hz)
        have hxc := hx.get hz
        refine sq (st_set F0 (ev_ix (ds := [.str "stir", dN c]) (ev_v rfl) ev_i rfl).ev fun v1 d1 H1 e1 F1 p1 => ?_)
        subst p1
        dsimp only
        refine sq (st_no F1 (et (ev_eqStrB (b := false) (ev_v rfl) ev_s (by decide +kernel))) fun H2 e2 F2 => ?_)
        refine sq (st_no F2 (et (ev_eqStrB (b := false) (ev_v rfl) ev_s (by decide +kernel))) fun H3 e3 F3 => ?_)
        refine sq (st_yes F3 (et (ev_eqStrB (b := true) (ev_v rfl) ev_s (by decide +kernel))) fun H4 e4 F4 => ?_)
        refine st_retL F4 (el_mapR (n := h.sizes.getD c 0) (f := fun v => .tuple [encC (x.set c v), .tuple [.str "stir", dN c, dN v]]) (ev_ix (ev_ix (ev_v rfl) ev_i rfl) (ev_ix (ds := [.str "stir", dN c]) (ev_v rfl) ev_i rfl) (at_N hz)) (by omega) fun v hv => bt (ev_with (ev_v rfl) (ev_ix (ds := [.str "stir", dN c]) (ev_v rfl) ev_i rfl) (ev_v rfl) hxc.2.2 hxl) (ev_cat (xs := [.str "stir", dN c]) (ev_v rfl) (ev_tup (eu_c (ev_v rfl) eu_nil)) (Nat.le_of_ble_eq_true rfl))) fun a ws ds H6 e6 n6 l6 r6 p6 => k a ws ds H6 e6 n6 l6 r6 ?_
        rw [p6, toldU, List.map_map]
        rfl
      | ask q =>
        refine sq (st_set F0 (ev_ix (ds := [.str "ask", dN q]) (ev_v rfl) ev_i rfl).ev fun v1 d1 H1 e1 F1 p1 => ?_)
        subst p1
        dsimp only
        refine sq (st_no F1 (et (ev_eqStrB (b := false) (ev_v rfl) ev_s (by decide +kernel))) fun H2 e2 F2 => ?_)
        refine sq (st_no F2 (et (ev_eqStrB (b := false) (ev_v rfl) ev_s (by decide +kernel))) fun H3 e3 F3 => ?_)
        refine sq (st_no F3 (et (ev_eqStrB (b := false) (ev_v rfl) ev_s (by decide +kernel))) fun H4 e4 F4 => ?_)
        refine sq (st_no F4 (et (ev_eqStrB (b := false) (ev_v rfl) ev_s (by decide +kernel))) fun H5 e5 F5 => ?_)
        exact st_retL F5 (one (bt (ev_v rfl) (Ev.one (ev_if (et (ev_eqStrB (b := true) (ev_v rfl) ev_s (by decide +kernel))) (fun _ => (ev_cat (xs := [.str "ask", dN q]) (ev_v rfl) (ev_tup (eu_c (ev_ans (ev_v rfl) (ev_ix (ds := [.str "ask", dN q]) (ev_v rfl) ev_i rfl) (ev_v rfl) ho hu hx) eu_nil)) (Nat.le_of_ble_eq_true rfl)).ev) (fun z => nomatch z))))) fun a ws ds H6 e6 n6 l6 r6 p6 => k a ws ds H6 e6 n6 l6 r6 p6
      | rest =>
        refine sq (st_set F0 (ev_ix (ds := [.str "rest"]) (ev_v rfl) ev_i rfl).ev fun v1 d1 H1 e1 F1 p1 => ?_)
        subst p1
        dsimp only
        refine sq (st_no F1 (et (ev_eqStrB (b := false) (ev_v rfl) ev_s (by decide +kernel))) fun H2 e2 F2 => ?_)
        refine sq (st_no F2 (et (ev_eqStrB (b := false) (ev_v rfl) ev_s (by decide +kernel))) fun H3 e3 F3 => ?_)
        refine sq (st_no F3 (et (ev_eqStrB (b := false) (ev_v rfl) ev_s (by decide +kernel))) fun H4 e4 F4 => ?_)
        refine sq (st_no F4 (et (ev_eqStrB (b := false) (ev_v rfl) ev_s (by decide +kernel))) fun H5 e5 F5 => ?_)
        exact st_retL F5 (one (bt (ev_v rfl) (Ev.one (ev_if (et (ev_eqStrB (b := false) (ev_v rfl) ev_s (by decide +kernel))) (fun z => nomatch z) (fun _ => (ev_v rfl).ev))))) fun a ws ds H6 e6 n6 l6 r6 p6 => k a ws ds H6 e6 n6 l6 r6 p6
/-! ### go_on -/
theorem ev_verdict {po : Option PenD} {Hb : Hp} {gs : List (V × AV)} {env : List AV} {E : XK} {th tq ts : TE} {h : House} {q : Nat} {s : List Con} (h1 : EvD T po Hb gs env th (encH h)) (h2 : EvD T po Hb gs env tq (dN q)) (h3 : EvD T po Hb gs env ts (encS s)) (ho : HouseOk h) (hq : q < h.qs.length) (hs : SetOk h s) :
    EvD T po Hb gs env (tCall (spVerdict T) [] E (tCons th (tCons tq (tCons ts tNil)))) (optN (verdictC h q s)) :=
  Ev.one (ev_c (args := fun a : House × Nat × List Con => [.d (encH a.1), .d (dN a.2.1), .d (encS a.2.2)]) (h, q, s) (ea_c h1 (ea_c h2 (ea_c h3 ea_nil))) ⟨ho, hq, hs⟩)
def encGo : Option (List (Nat × List Con)) → PyData
  | none => .none
  | some l => .tuple (l.map encPart)
def spGo (T : List (Addr × Str)) : Sp := SpD T (α := House × Route × Nat × List Con) (fun a => [.d (encH a.1), .d (encR a.2.1), .d (dN a.2.2.1), .d (encS a.2.2.2)]) (fun a => HouseOk a.1 ∧ RouteOk a.1 a.2.1 ∧ a.2.2.1 < a.2.1.length ∧ SetOk a.1 a.2.2.2) (fun a d => d = encGo (goC a.1 a.2.1 a.2.2.1 a.2.2.2))
theorem item_word (i : Item) : ∃ wd rest, encItem i = .tuple (.str wd :: rest) ∧ decide (wd = "ask") = (match i with | .ask _ => true | _ => false) := by
  cases i with
  | deed k => exact ⟨"deed", [dN k], rfl, (show decide ((Str.ofString "deed") = Str.ofString "ask") = false by decide +kernel)⟩
  | perhaps k => exact ⟨"perhaps", [dN k], rfl, (show decide ((Str.ofString "perhaps") = Str.ofString "ask") = false by decide +kernel)⟩
  | stir c => exact ⟨"stir", [dN c], rfl, (show decide ((Str.ofString "stir") = Str.ofString "ask") = false by decide +kernel)⟩
  | ask q => exact ⟨"ask", [dN q], rfl, (show decide ((Str.ofString "ask") = Str.ofString "ask") = true by decide +kernel)⟩
  | rest => exact ⟨"rest", [], rfl, (show decide ((Str.ofString "rest") = Str.ofString "ask") = false by decide +kernel)⟩
theorem ok_goon (B : Bi mg) {f : Addr} {fd : FuncData} (D : Df K mg "go_on" s_go_on f fd ["house", "route", "place", "some"]) (C1 : Cal P w K mg base "verdict" s_verdict ["house", "question", "some"] 2 (spVerdict T)) (C2 : Cal P w K mg base "left_behind" s_left_behind ["house", "some", "item"] 10 (spLeft T)) :
    Cal P w K mg base "go_on" s_go_on ["house", "route", "place", "some"] 11 (spGo T) := by
  obtain ⟨fa, fda, D_verdict, G_verdict⟩ := C1
  obtain ⟨fb, fdb, D_left_behind, G_left_behind⟩ := C2
  refine ⟨f, fd, D, D.F.ok sc_go_on (fun vs H Q E h => ?_) (fun cdv A outer s H vs Q E hr h => ?_)⟩
  · obtain ⟨a, h1, _⟩ := h
    exact h1.len
  · obtain ⟨⟨h, r, p, ss⟩, ⟨ho, hro, hp, hs⟩, F0, k⟩ := SpD.ent (N := ["house", "route", "place", "some", "item", "nexts", "left", "following"]) h (fun _ => Nat.le_of_ble_eq_true rfl)
    dsimp only at *
    refine ⟨_, (pss_cons (ps_asg (pe_ix ix_tup (pv 1) (pv 2) (fun _ _ => rfl)) (pg_tup (by rfl) (pgs_cons (pg_name (i := 4) sc_go_on.nd rfl (Or.inl rfl)) (pgs_cons (pg_name (i := 5) sc_go_on.nd rfl (Or.inl rfl)) pgs_nil))))
      (pss_cons (ps_if (PW.pt (pw_and (pt_cmpR op_eq (pe_ix ix_tup (pv 4) pe_int (fun _ _ => rfl)) pe_str (nomark _)) (pw_and1 (pt_cmp (pc_isN (pe_call G_verdict (hr.mono (by omega)) (by rfl) D_verdict.m D_verdict.F.kp D_verdict.b .nil pass0 (pa_cons (pv 0) (pa_cons (pe_ix ix_tup (pv 4) pe_int (fun _ _ => rfl)) (pa_cons (pv 3) pa_nil))))) rfl)))) (pss_one (ps_ret pe_non)) pss_nil)
      (pss_cons (ps_set (i := 6) sc_go_on.nd rfl (Or.inr rfl) (pe_call G_left_behind (hr.mono (by omega)) (by rfl) D_left_behind.m D_left_behind.F.kp D_left_behind.b .nil pass0 (pa_cons (pv 0) (pa_cons (pv 3) (pa_cons (pv 4) pa_nil)))))
      (pss_one (ps_ret (pe_tupleOf (by rfl) B.tuple (pe_lc (own := [("following", 7)]) (g := gName 7) rfl sc_go_on.nd (pi_tup (pv 5)) (blkOk_by (N := ["house", "route", "place", "some", "item", "nexts", "left", "following"]) (sc := defScope s_go_on) (by decide +kernel)) (fun _ _ _ _ _ => (pg_name (i := 7) sc_go_on.nd rfl (Or.inl rfl))) (fun _ _ _ _ _ => pts_nil) (fun _ _ _ _ _ => (pe_tup (pa_cons (pv 7) (pa_cons (pv 6) pa_nil))))))))))), ?_⟩
    obtain ⟨⟨it, ns⟩, hrp⟩ : ∃ z, r[p]? = some z := ⟨r[p], List.getElem?_eq_getElem hp⟩
    have hit : ItemOk h it := hro.items _ (List.mem_of_getElem? hrp)
    have hns := hro.nexts p it ns hrp
    obtain ⟨wd, rest, hw1, hw2⟩ := item_word it
    have egd : goC h r p ss = if blocked h ss it = true then none else some (ns.map fun n => (n, behindC h it ss)) := by unfold goC; rw [hrp]
    have wordT : ∀ {gs : List (V × AV)} {env : List AV} {te : TE}, EvD T none H gs env te (encItem it) → EvT T none H gs env (tB (tOp rEq (tOp (rIxT K) te (tC (.int 0))) (tC (.str "ask")))) (· = decide (wd = "ask")) := fun he => etB (ev_eqStr (ev_ix (ds := .str wd :: rest) (he.to hw1) ev_i (atI_nat (xs := .str wd :: rest) (j := 0) rfl)) ev_s)
    refine sq (st_set2 (x := encItem it) (y := dNs ns) F0 (ev_ix (ev_v rfl) (ev_v rfl) (at_Pl hrp)) fun v1 v2 H1 e1 F1 => ?_)
    dsimp only
    refine sq (st_if (Pb := fun b => b = blocked h ss it) F1 ?_ (fun H2 e2 F2 p2 => ?_) (fun H2 e2 F2 p2 => ?_))
    · refine et_and (Pa := fun b => b = decide (wd = "ask")) (Pb := fun b => b = blocked h ss it) (wordT (ev_v rfl)) (fun pa => ?_) (fun pa => ?_) (fun pa b pb => pb)
      · cases it with
        | ask q =>
          refine (etB (ev_isN (ev_verdict (ev_v rfl) (ev_ix (ds := [.str "ask", dN q]) (ev_v rfl) ev_i rfl) (ev_v rfl) ho hit hs))).imp fun b e => ?_
          rw [e]
          show _ = (verdictC h q ss).isNone
          cases verdictC h q ss <;> rfl
        | deed k => rw [← pa] at hw2; cases hw2
        | perhaps k => rw [← pa] at hw2; cases hw2
        | stir c => rw [← pa] at hw2; cases hw2
        | rest => rw [← pa] at hw2; cases hw2
      · cases it with
        | ask q => rw [← pa] at hw2; cases hw2
        | deed k => rfl
        | perhaps k => rfl
        | stir c => rfl
        | rest => rfl
    · refine st_ret F2 ev_n.ev fun v d H4 e4 r4 p4 => k v d H4 e4 r4 ?_
      rw [p4, egd, if_pos p2.symm]
      rfl
    · dsimp only [tNext]
      refine sq (st_set F2 (ev_left (u := .item it) (ev_v rfl) (ev_v rfl) (ev_v rfl) ho hs.g hit).ev fun v3 d3 H3 e3 F3 p3 => ?_)
      subst p3
      dsimp only
      refine st_ret F3 (ev_tuple (K := K) (el_mapE (enc := dN) (f := fun n => encPart (n, behindC h it ss)) (fun x _ y _ e => ?_) (ev_v rfl) (by have := hns.2.1; omega) fun n hn => ev_tup (eu_c (ev_v rfl) (eu_c (ev_v rfl) eu_nil))).k) fun v d H4 e4 r4 ⟨ds, p1, p2'⟩ => k v d H4 e4 r4 ?_
      · have : x = y := by injection e with e; omega
        rw [this]
      · rw [p2', p1, egd, if_neg (by rw [← p2]; exact Bool.false_ne_true)]
        show _ = PyData.tuple (List.map encPart (ns.map _))
        rw [List.map_map]
        rfl
end
end K22
/-! KO: one true history, in plain lists: layers of contents, each with where it came from. -/
namespace K22
open PySem L2
/-- what happens from x to y, told -/
inductive PathU (h : House) : Con → List UE → List TEv → Con → Prop
  | nil {x : Con} : PathU h x [] [] x
  | cons {x y z : Con} {u : UE} {us : List UE} {t : TEv} {ts : List TEv} : (y, t) ∈ toldU h x u → PathU h y us ts z → PathU h x (u :: us) (t :: ts) z
abbrev Lay := List (Con × Con × TEv)
def addL (l : Lay) (y x : Con) (t : TEv) : Lay := if y ∈ l.map (·.1) then l else l ++ [(y, x, t)]
def stepL (x : Con) (ps : List (Con × TEv)) (l : Lay) : Lay := ps.foldl (fun l p => addL l p.1 x p.2) l
def layL (h : House) (u : UE) (ks : List Con) : Lay := ks.foldl (fun l x => stepL x (toldU h x u) l) []
def lastK (h : House) (c0 : List Con) (us : List UE) : List Con := us.foldl (fun ks u => (layL h u ks).map (·.1)) c0
abbrev encL (l : Lay) : NT := l.map fun p => (cK p.1, .tuple [encC p.2.1, encTE p.2.2])
theorem addL_nd {l : Lay} {y x : Con} {t : TEv} (h : (l.map (·.1)).Nodup) : ((addL l y x t).map (·.1)).Nodup := by
  unfold addL
  by_cases e : y ∈ l.map (·.1)
  · rw [if_pos e]; exact h
  · rw [if_neg e, List.map_append, List.nodup_append]
    refine ⟨h, List.pairwise_singleton _ y, fun a ha b hb e2 => e ?_⟩
    have q : b = y := by simpa using hb
    rw [← q, ← e2]
    exact ha
theorem addL_mem {l : Lay} {y x : Con} {t : TEv} {p : Con × Con × TEv} (h : p ∈ addL l y x t) : p ∈ l ∨ p = (y, x, t) := by
  unfold addL at h
  split at h
  · exact .inl h
  · rcases List.mem_append.mp h with h | h
    · exact .inl h
    · exact .inr (List.mem_singleton.mp h)
theorem addL_key {l : Lay} {y x z : Con} {t : TEv} : z ∈ (addL l y x t).map (·.1) ↔ z ∈ l.map (·.1) ∨ z = y := by
  unfold addL
  by_cases e : y ∈ l.map (·.1)
  · rw [if_pos e]
    exact ⟨.inl, fun h => h.elim id fun q => by rw [q]; exact e⟩
  · rw [if_neg e, List.map_append, List.mem_append]
    simp
/-- what a layer's rows tell -/
def LayOk (h : House) (u : UE) (ks : List Con) (l : Lay) : Prop := (l.map (·.1)).Nodup ∧ ∀ p ∈ l, p.2.1 ∈ ks ∧ (p.1, p.2.2) ∈ toldU h p.2.1 u
theorem stepL_ok {h : House} {u : UE} {ks : List Con} {x : Con} (hx : x ∈ ks) : ∀ {ps : List (Con × TEv)} {l : Lay}, (∀ p ∈ ps, p ∈ toldU h x u) → LayOk h u ks l → LayOk h u ks (stepL x ps l)
  | [], _, _, o => o
  | p :: ps, l, hp, o => stepL_ok hx (ps := ps) (fun q hq => hp q (List.mem_cons_of_mem _ hq)) ⟨addL_nd o.1, fun q hq => by
    rcases addL_mem hq with hq | rfl
    · exact o.2 q hq
    · exact ⟨hx, hp p List.mem_cons_self⟩⟩
theorem stepL_key {x z : Con} : ∀ {ps : List (Con × TEv)} {l : Lay}, z ∈ (stepL x ps l).map (·.1) ↔ z ∈ l.map (·.1) ∨ ∃ t, (z, t) ∈ ps
  | [], l => by simp [stepL]
  | p :: ps, l => by
    show z ∈ (stepL x ps (addL l p.1 x p.2)).map (·.1) ↔ _
    rw [stepL_key (ps := ps), addL_key]
    constructor
    · rintro ((h | h) | ⟨t, h⟩)
      · exact .inl h
      · exact .inr ⟨p.2, by rw [h]; exact List.mem_cons_self⟩
      · exact .inr ⟨t, List.mem_cons_of_mem _ h⟩
    · rintro (h | ⟨t, h⟩)
      · exact .inl (.inl h)
      · rcases List.mem_cons.mp h with h | h
        · exact .inl (.inr (by rw [← h]))
        · exact .inr ⟨t, h⟩
theorem layF_ok {h : House} {u : UE} {ks : List Con} : ∀ {qs : List Con} {l : Lay}, (∀ x ∈ qs, x ∈ ks) → LayOk h u ks l → LayOk h u ks (qs.foldl (fun l x => stepL x (toldU h x u) l) l)
  | [], _, _, o => o
  | x :: qs, l, hq, o => layF_ok (qs := qs) (fun y hy => hq y (List.mem_cons_of_mem _ hy)) (stepL_ok (hq x List.mem_cons_self) (fun p hp => hp) o)
theorem layF_key {h : House} {u : UE} {z : Con} : ∀ {qs : List Con} {l : Lay}, z ∈ (qs.foldl (fun l x => stepL x (toldU h x u) l) l).map (·.1) ↔ z ∈ l.map (·.1) ∨ ∃ x ∈ qs, ∃ t, (z, t) ∈ toldU h x u
  | [], l => by simp
  | x :: qs, l => by
    rw [List.foldl_cons, layF_key (qs := qs), stepL_key]
    constructor
    · rintro ((h | h) | ⟨y, hy, h⟩)
      · exact .inl h
      · exact .inr ⟨x, List.mem_cons_self, h⟩
      · exact .inr ⟨y, List.mem_cons_of_mem _ hy, h⟩
    · rintro (h | ⟨y, hy, h⟩)
      · exact .inl (.inl h)
      · rcases List.mem_cons.mp hy with rfl | hy
        · exact .inl (.inr h)
        · exact .inr ⟨y, hy, h⟩
theorem layL_ok (h : House) (u : UE) (ks : List Con) : LayOk h u ks (layL h u ks) := layF_ok (fun _ hx => hx) ⟨List.nodup_nil, fun _ z => nomatch z⟩
theorem layL_key {h : House} {u : UE} {ks : List Con} {z : Con} : z ∈ (layL h u ks).map (·.1) ↔ ∃ x ∈ ks, ∃ t, (z, t) ∈ toldU h x u := by
  unfold layL
  rw [layF_key]
  simp
theorem told_ok {h : House} (ho : HouseOk h) {u : UE} (hu : UEOk h u) {x : Con} (hx : ConOk h.sizes x) : ∀ p ∈ toldU h x u, ConOk h.sizes p.1 := by
  intro p hp
  cases u with
  | saw c v =>
    have e : toldU h x (.saw c v) = if x.getD c 0 = v then [(x, .saw c v)] else [] := rfl
    rw [e] at hp
    split at hp
    · rw [List.mem_singleton.mp hp]; exact hx
    · cases hp
  | to q => rw [List.mem_singleton.mp hp]; exact hx
  | item i =>
    cases i with
    | deed k => rw [List.mem_singleton.mp hp]; exact doneC_ok ho hu hx
    | perhaps k =>
      rcases List.mem_cons.mp hp with rfl | hp
      · exact hx
      · rw [List.mem_singleton.mp hp]; exact doneC_ok ho hu hx
    | stir c =>
      obtain ⟨v, hv, rfl⟩ := List.mem_map.mp hp
      exact hx.set (at_sz hu 0) (List.mem_range.mp hv)
    | ask q => rw [List.mem_singleton.mp hp]; exact hx
    | rest => rw [List.mem_singleton.mp hp]; exact hx
theorem lay_g {h : House} (ho : HouseOk h) {u : UE} (hu : UEOk h u) {ks : List Con} (g : SetG h ks) : SetG h ((layL h u ks).map (·.1)) := by
  obtain ⟨h1, h2⟩ := layL_ok h u ks
  refine ⟨fun y hy => ?_, h1⟩
  obtain ⟨p, hp, rfl⟩ := List.mem_map.mp hy
  obtain ⟨h3, h4⟩ := h2 p hp
  exact told_ok ho hu (g.all _ h3) _ h4
theorem last_g {h : House} (ho : HouseOk h) : ∀ {us : List UE} {c0 : List Con}, (∀ u ∈ us, UEOk h u) → SetG h c0 → SetG h (lastK h c0 us)
  | [], _, _, g => g
  | u :: us, c0, hu, g => last_g ho (us := us) (fun x hx => hu x (List.mem_cons_of_mem _ hx)) (lay_g ho (hu u List.mem_cons_self) g)
/-- whatever way is open ends in the last layer -/
theorem last_has {h : House} : ∀ {us : List UE} {c0 : List Con} {x y : Con} {ts : List TEv}, x ∈ c0 → PathU h x us ts y → y ∈ lastK h c0 us
  | [], c0, x, y, ts, hx, p => by cases p; exact hx
  | u :: us, c0, x, y, ts, hx, p => by
    cases p with
    | cons h1 h2 => exact last_has (us := us) (layL_key.mpr ⟨x, hx, _, h1⟩) h2
/-! the layers as tables -/
theorem valL {y : Con} : ∀ {l : Lay}, (y ∈ l.map (·.1) → ∃ x t, (y, x, t) ∈ l ∧ valN (encL l) (cK y) = some (.tuple [encC x, encTE t])) ∧ (y ∉ l.map (·.1) → valN (encL l) (cK y) = none)
  | [] => ⟨fun h => (nomatch h), fun _ => rfl⟩
  | p :: l => by
    obtain ⟨i1, i2⟩ := valL (y := y) (l := l)
    have e : valN (encL (p :: l)) (cK y) = if cK p.1 = cK y then some (.tuple [encC p.2.1, encTE p.2.2]) else valN (encL l) (cK y) := valN_cons _ _ _
    refine ⟨fun h => ?_, fun h => ?_⟩
    · by_cases q : p.1 = y
      · refine ⟨p.2.1, p.2.2, ?_, by rw [e, if_pos (by rw [q])]⟩
        rw [← q]
        exact List.mem_cons_self
      · have h' : y ∈ l.map (·.1) := (List.mem_cons.mp h).elim (fun z => absurd z.symm q) id
        obtain ⟨x, t, h1, h2⟩ := i1 h'
        exact ⟨x, t, List.mem_cons_of_mem _ h1, by rw [e, if_neg (fun z => q (cK_inj z)), h2]⟩
    · rw [e, if_neg (fun z => h (by rw [← cK_inj z]; exact List.mem_cons_self)), i2 (fun z => h (List.mem_cons_of_mem _ z))]
theorem setL_new {y x : Con} {t : TEv} {l : Lay} (h : y ∉ l.map (·.1)) : setN (encL l) (cK y) (.tuple [encC x, encTE t]) = encL (l ++ [(y, x, t)]) := by
  unfold setN
  rw [valL.2 h, if_neg (by simp)]
  exact (List.map_append (l₁ := l) (l₂ := [(y, x, t)]) (f := fun p : Con × Con × TEv => (cK p.1, PyData.tuple [encC p.2.1, encTE p.2.2]))).symm
theorem addL_new {y x : Con} {t : TEv} {l : Lay} (h : y ∉ l.map (·.1)) : addL l y x t = l ++ [(y, x, t)] := if_neg h
theorem addL_old {y x : Con} {t : TEv} {l : Lay} (h : y ∈ l.map (·.1)) : addL l y x t = l := if_pos h
end K22
/-! KV: xs[:0:-1] of a list. -/
namespace K22
open PySem PySem.Spec PyProof.Rows L2
theorem rev1_bounds {n : Nat} (h : 0 < n) : sliceBounds none (some 0) (some (-1)) n = ((n : Int) - 1, 0, -1) := by
  have e : max (-1 : Int) (min 0 ((n : Int) - 1)) = 0 := by omega
  have e2 : sliceBounds none (some 0) (some (-1)) n = ((n : Int) - 1, max (-1 : Int) (min 0 ((n : Int) - 1)), -1) := rfl
  rw [e2, e]
theorem rev1_range {n : Nat} (h : 0 < n) : sliceRange ((n : Int) - 1) 0 (-1) = (((List.range (n - 1)).map (1 + ·))).reverse := by
  unfold sliceRange
  have h1 : ¬ ((-1 : Int) > 0) := by decide
  by_cases hg : (n : Int) - 1 > 0
  · have e : ((n : Int) - 1 - 0 - -1 - 1) / (- -1) = ((n - 1 : Nat) : Int) := by
      rw [show (- -1 : Int) = 1 by decide, Int.ediv_one]
      omega
    simp only [h1, if_false, hg, if_true, e, Int.toNat_natCast]
    refine List.ext_getElem (by simp) fun i q1 q2 => ?_
    simp only [List.length_map, List.length_range] at q1
    simp only [List.getElem_map, List.getElem_range, List.getElem_reverse, List.length_map, List.length_range]
    omega
  · have e : n = 1 := by omega
    subst e
    rfl
theorem rev1_pick {items : Array Value} (h : 0 < items.size) : slicePick items none (some 0) (some (-1)) = items.toList.tail.reverse.toArray := by
  unfold slicePick
  rw [rev1_bounds h]
  show ((sliceRange ((items.size : Int) - 1) 0 (-1)).filterMap (items[·]?)).toArray = _
  rw [rev1_range h, List.filterMap_reverse, pick_run items 1 (items.size - 1)]
  rw [List.drop_one, List.take_of_length_le (by rw [List.length_tail, Array.length_toList]; exact Nat.le_refl _)]
def tRev1 (K : PySem.W.Frag) (te : TE) : TE := fun σ H Q => te σ H fun x H1 => ∃ a xs, x = .ref a ∧ SqL K H1 a xs ∧ 0 < xs.length ∧ ∀ p, H1 p = none → Q (.ref p) (upd H1 p (.lst xs.tail.reverse))
theorem vals_tail : ∀ {xs : List V} {us : List Value}, Vals xs us → Vals xs.tail us.tail
  | _, _, .nil => .nil
  | _, _, .cons _ t => t
theorem pe_rev1 {X : Cx} {e : Expr} {te : TE} {k k2 : Nat} {p1 p2 p3 p4 pos : Pos} (he : PE X e te) : PE X (.Subscript e (.Slice none (some (.Constant (.int 0) k2 p4)) (some (.UnaryOp .USub (.Constant (.int 1) k p1) p2)) p3) pos) (tRev1 X.K te) := by
  refine ⟨fun pins s σ H Q I h => ?_⟩
  refine Subscript_ (thn (he.run pins s σ H _ I h) fun v s1 ⟨x, H1, I1, r1, q1⟩ => ?_)
  obtain ⟨a, xs, ex, hx, hne, q⟩ := q1
  subst ex
  cases r1
  have hhi : PO X (some (.Constant (.int 0) k2 p4)) (tPart (tC (.int 0))) := po_some pe_int
  have hst : PO X (some (.UnaryOp .USub (.Constant (.int 1) k p1) p2)) (tPart (tUn (rU fun i => .int (-i)) (tC (.int 1)))) := po_some (pe_un un_neg pe_int)
  refine wpAny_Slice (thn (po_none.run pins s1 σ H1 (fun o H2 => o = none ∧ H2 = H1) I1 ⟨rfl, rfl⟩) fun vl s2 ⟨l, H2, I2, pl, el, e2⟩ => ?_)
  subst el e2
  refine thn (hhi.run pins s2 σ H2 (fun o H3 => o = some 0 ∧ H3 = H2) I2 ⟨0, rfl, rfl, rfl⟩) fun vu s3 ⟨u, H3, I3, pu, eu, e3⟩ => ?_
  subst eu e3
  refine thn (hst.run pins s3 σ H3 (fun o H4 => o = some (-1) ∧ H4 = H3) I3 ⟨1, rfl, -1, rfl, rfl, rfl⟩) fun vs s4 ⟨o, H4, I4, ps, eo, e4⟩ => ?_
  subst eo e4
  have I5 : Inv X pins σ H4 { s4 with heap := s4.heap.push { cls := .type "slice", data := .fields #[vl, vu, vs] } } := I4.kept (t' := s4.toks) fun b ob z => Heap.get?_push_of_some _ z
  obtain ⟨its, r, ht, hz⟩ := I5.list hx
  have hlen := r.length
  show wpAny (model X.prog X.w) X.A (subscriptTail e (.Slice none (some (.Constant (.int 0) k2 p4)) (some (.UnaryOp .USub (.Constant (.int 1) k p1) p2)) p3) (.ref a) (.ref s4.heap.objs.size)) (EP X pins σ Q) X.xe { s4 with heap := s4.heap.push { cls := .type "slice", data := .fields #[vl, vu, vs] } }
  refine tail_any (ops := [.ref a, .ref s4.heap.objs.size]) ht.isList.typeIs (PySem.slot_list_getitem.lookup) ?_ (by with_unfolding_all rfl)
  refine wpAny_getItem_list_slice ht.isList (Heap.IsSliceOf.new _ vl vu vs) pl pu ps (by decide) ?_ (by rw [List.size_toArray]; omega)
  rw [rev1_pick (by rw [List.size_toArray, ← hlen]; exact hne)]
  refine ⟨.ref _, _, I5.laid (t' := s4.toks) (o := .lst xs.tail.reverse) (fun b ob z => Heap.get?_push_of_some _ z) (Nat.le_refl _) ?_, rfl, q _ (I5.hok.fresh (Nat.le_refl _))⟩
  exact ⟨by rw [List.length_reverse, List.length_tail]; omega, _, 0, (vals_tail r).reverse, Heap.get?_push_size _ rfl⟩
end K22
/-! KF: one_true. -/
namespace K22
open PySem PySem.Spec L2 LamX
theorem for_JW {J : It} {ds : List PyData} {S : Hp → Prop} {g : TG} {t : TS} {D : Ends} {σ : L2.St} {H : Hp} (w : JW J ds S) (I : Nat → L2.St → Hp → Prop) (hS : ∀ n σ H, I n σ H → S H) (hx : ∀ n σ H H', I n σ H → (∀ T po, Ex T po H H') → I n σ H') (h0 : I 0 σ H)
    (hs : ∀ n d x σ H, ds[n]? = some d → I n σ H → Dt H x d → g x σ H fun σ2 H2 => t { D with nx := I (n + 1), ct := I (n + 1), bk := D.nx } σ2 H2) (hd : ∀ σ H, I ds.length σ H → D.nx σ H) :
    ∃ W : Nat → Nat → L2.St → Hp → Prop, (∃ m, W 0 m σ H) ∧ ∀ i m σ H, W i m σ H → (J.stop i H ∧ D.nx σ H) ∨ (J.go i H ∧ ∃ N : L2.St → Hp → Prop, (∀ σ' H', N σ' H' → ∃ m', m' < m ∧ W (i + 1) m' σ' H') ∧ ∀ x H', J.yld i H x H' → g x σ H' fun σ2 H2 => t { D with nx := N, ct := N, bk := D.nx } σ2 H2) := by
  refine ⟨fun n m σ H => m = ds.length - n ∧ n ≤ ds.length ∧ I n σ H, ⟨ds.length, rfl, Nat.zero_le _, h0⟩, ?_⟩
  rintro n m σ' H' ⟨rfl, hn, i'⟩
  obtain ⟨w1, w2⟩ := w n H' (hS _ _ _ i')
  by_cases hlt : n < ds.length
  · obtain ⟨go, y⟩ := w1 ds[n] (List.getElem?_eq_getElem hlt)
    refine .inr ⟨go, I (n + 1), fun σ3 H3 l3 => ⟨ds.length - (n + 1), by omega, rfl, hlt, l3⟩, fun x H3 yy => ?_⟩
    obtain ⟨ex, rd⟩ := y x H3 yy
    exact hs n ds[n] x σ' H3 (List.getElem?_eq_getElem hlt) (hx _ _ _ _ i' ex) rd
  · have e : n = ds.length := by omega
    subst e
    exact .inl ⟨w2 (Nat.le_refl _), hd σ' H' i'⟩
theorem for_refs {K : PySem.W.Frag} {R : Addr} {as : List Addr} {g : TG} {t : TS} {D : Ends} {σ : L2.St} {H : Hp} (I : Nat → L2.St → Hp → Prop) (hq : ∀ n σ H, I n σ H → H R = some (.lst (as.map V.ref))) (h0 : I 0 σ H)
    (hs : ∀ n b σ H, as[n]? = some b → I n σ H → g (.ref b) σ H fun σ2 H2 => t { D with nx := I (n + 1), ct := I (n + 1), bk := D.nx } σ2 H2) (hd : ∀ σ H, I as.length σ H → D.nx σ H) :
    ∃ W : Nat → Nat → L2.St → Hp → Prop, (∃ m, W 0 m σ H) ∧ ∀ i m σ H, W i m σ H → ((Itl K R).stop i H ∧ D.nx σ H) ∨ ((Itl K R).go i H ∧ ∃ N : L2.St → Hp → Prop, (∀ σ' H', N σ' H' → ∃ m', m' < m ∧ W (i + 1) m' σ' H') ∧ ∀ x H', (Itl K R).yld i H x H' → g x σ H' fun σ2 H2 => t { D with nx := N, ct := N, bk := D.nx } σ2 H2) := by
  refine ⟨fun n m σ H => m = as.length - n ∧ n ≤ as.length ∧ I n σ H, ⟨as.length, rfl, Nat.zero_le _, h0⟩, ?_⟩
  rintro n m σ' H' ⟨rfl, hn, i'⟩
  have q := hq _ _ _ i'
  by_cases hlt : n < as.length
  · have hx : (as.map V.ref)[n]? = some (.ref as[n]) := by rw [List.getElem?_map, List.getElem?_eq_getElem hlt]; rfl
    refine .inr ⟨⟨_, _, SqL.of q, hx⟩, I (n + 1), fun σ3 H3 l3 => ⟨as.length - (n + 1), by omega, rfl, hlt, l3⟩, fun x H3 y => ?_⟩
    obtain ⟨rfl, y⟩ := y
    rw [Option.some.inj ((y _ (SqL.of q)).symm.trans hx)]
    exact hs n as[n] σ' H3 (List.getElem?_eq_getElem hlt) i'
  · have e : n = as.length := by omega
    subst e
    exact .inl ⟨⟨_, SqL.of q, by rw [List.length_map]; exact Nat.le_refl _⟩, hd σ' H' i'⟩
theorem pair_get {α β : Type} {R : α → β → Prop} : ∀ {xs : List α} {ys : List β} {i : Nat} {x : α}, Paired R xs ys → xs[i]? = some x → ∃ y, ys[i]? = some y ∧ R x y
  | _, _, i, _, .nil, h => by simp at h
  | _, _, 0, x, .cons h _, e => by
    simp at e
    subst e
    exact ⟨_, rfl, h⟩
  | _, _, i + 1, x, .cons _ t, e => by
    obtain ⟨y, h1, h2⟩ := pair_get (i := i) (x := x) t (by simpa using e)
    exact ⟨y, by simpa using h1, h2⟩
theorem pair_map {α β : Type} {R S : α → β → Prop} {xs : List α} {ys : List β} (h : Paired R xs ys) (f : ∀ x y, x ∈ xs → R x y → S x y) : Paired S xs ys := by
  induction h with
  | nil => exact .nil
  | cons h _ ih => exact .cons (f _ _ List.mem_cons_self h) (ih fun x y hx => f x y (List.mem_cons_of_mem _ hx))
theorem atI_neg1 {α : Type} {xs : List α} {n : Nat} {x : α} (hl : xs.length = n + 1) (h : xs[n]? = some x) : atI xs (-1) = some x := by
  unfold atI ixN
  rw [if_neg (by decide), if_pos (by omega), hl]
  have e : ((-1 : Int) + ((n + 1 : Nat) : Int)).toNat = n := by omega
  rw [e]
  exact h
section
variable {T : List (Addr × Str)} {po : Option PenD} {Hb : Hp} {gs : List (V × AV)} {env : List AV} {H H' : Hp} {σ : L2.St} {P : Program} {w : World} {K : PySem.W.Frag}
/-- what is no list is no slot's list -/
theorem Fr.offX (F : Fr T po Hb gs env H σ) {a : Addr} {u : HO} (h : H a = some u) (hu : ∀ xs, u ≠ .lst xs) : Off gs env σ a := by
  refine ⟨fun i xs e q => ?_, fun g hg ⟨ys, e⟩ q => ?_⟩
  · obtain ⟨b, vs, h1, _, h2, _⟩ := F.sl i _ e
    rw [h1] at q
    cases q
    rw [h] at h2
    exact hu vs (Option.some.inj h2)
  · obtain ⟨h1, _⟩ := F.gh g hg
    rw [e] at h1
    obtain ⟨b, vs, h1, _, h2, _⟩ := h1
    have h3 : V.ref b = .ref a := (Option.some.inj (Option.some.inj h1)).symm.trans q
    cases h3
    rw [h] at h2
    exact hu vs (Option.some.inj h2)
theorem Fr.offN {a : Addr} {t : NT} (F : Fr T po Hb gs env H σ) (h : DN P w H a t) : Off gs env σ a := by
  obtain ⟨_, o, xs, h1, _⟩ := h
  exact F.offX h1 fun _ q => nomatch q
/-- no list among the slots -/
theorem offS {a : Addr} (h1 : ∀ x ∈ env, ∀ ys, x ≠ .l ys) (h2 : ∀ g ∈ gs, ∀ ys, g.2 ≠ .l ys) : Off gs env σ a :=
  ⟨fun i xs e => absurd rfl (h1 _ (List.mem_of_getElem? e) xs), fun g hg ⟨ys, e⟩ => absurd e (h2 g hg ys)⟩
theorem DN.upd {a c : Addr} {t : NT} {o : HO} (h : DN P w H a t) (ne : a ≠ c) (tk : Tk H (L2.upd H c o)) : DN P w (L2.upd H c o) a t := by
  obtain ⟨z, ob, xs, h1, h2, h3⟩ := h
  exact ⟨z, ob, xs, by rw [upd_ne ne]; exact h1, h2.mono tk, h3⟩
/-- the layers: a list of dicts, made here -/
structure LayH (P : Program) (w : World) (Hb H : Hp) (L : Addr) (as : List Addr) (ts : List NT) : Prop where
  l0 : Hb L = none
  l1 : H L = some (.lst (as.map V.ref))
  al : Paired (fun a t => Hb a = none ∧ DN P w H a t) as ts
theorem LayH.mono {L : Addr} {as : List Addr} {ts : List NT} (h : LayH P w Hb H L as ts) (e : Ex T none H H') : LayH P w Hb H' L as ts :=
  ⟨h.l0, e.lst NP.none h.l1, pair_map h.al fun a t _ z => ⟨z.1, z.2.keep e NP.none⟩⟩
theorem LayH.upd {L b : Addr} {as : List Addr} {ts : List NT} {o : HO} (h : LayH P w Hb H L as ts) (hL : L ≠ b) (ha : b ∉ as) (tk : Tk H (L2.upd H b o)) : LayH P w Hb (L2.upd H b o) L as ts :=
  ⟨h.l0, by rw [upd_ne hL]; exact h.l1, pair_map h.al fun a t hm z => ⟨z.1, z.2.upd (fun e => ha (e ▸ hm)) tk⟩⟩
theorem LayH.snoc {L b : Addr} {as : List Addr} {ts : List NT} {t : NT} (h : LayH P w Hb H L as ts) (hb : Hb b = none) (hd : DN P w H b t) (tk : Tk H (L2.upd H L (.lst ((as ++ [b]).map V.ref)))) : LayH P w Hb (L2.upd H L (.lst ((as ++ [b]).map V.ref))) L (as ++ [b]) (ts ++ [t]) := by
  have ne : ∀ {a : Addr} {s : NT}, DN P w H a s → a ≠ L := fun {a s} z e => by
    obtain ⟨_, o, xs, h1, _⟩ := z
    rw [e, h.l1] at h1
    cases h1
  exact ⟨h.l0, upd_same, K22.Paired.snoc (pair_map h.al fun a t _ z => ⟨z.1, z.2.upd (ne z.2) tk⟩) ⟨hb, hd.upd (ne hd) tk⟩⟩
theorem el_revL {te : TE} {Pl : List PyData → Prop} (h : EvK T po Hb gs env te Pl) : EvL T po Hb gs env (tRevL K te) (fun l => ∃ ds, Pl ds ∧ l = ds.reverse) := fun σ H F Q q => by
  refine h σ H F _ fun a vs ds H1 e1 F1 np h1 r1 p1 => ⟨a, vs, rfl, SqL.of h1, fun p hp => ?_⟩
  have e2 : Ex T po H1 (L2.upd H1 p (.lst vs.reverse)) := Ex.new hp
  exact q _ _ _ _ (e1.trans e2) (F1.mono e2) (e1.dom p hp) upd_same (r1.rev.mono e2.tup) ⟨ds, p1, rfl⟩
theorem st_appX {te : TE} {D : Ends} {i : Nat} {a : Addr} {xs : List PyData} {Pd : PyData → Prop} (F : Fr T po Hb gs env H σ) (hi : env[i]? = some (.l xs)) (hs : σ[i]? = some (some (.ref a))) (hl : xs.length < 16777216) (h : Ev T po Hb gs env te Pd) (q : ∀ d H1 ws, Ex T po H H1 → Pd d → H1 a ≠ none → Fr T po Hb gs (env.set i (.l (xs ++ [d]))) (L2.upd H1 a (.lst ws)) σ → Tk H1 (L2.upd H1 a (.lst ws)) → D.nx σ (L2.upd H1 a (.lst ws))) :
    tDrop (tBM K "list" rAppend (tVar i) (tCons te tNil)) D σ H := by
  obtain ⟨a', vs, h1, h0, h2, h3⟩ := F.lst hi
  rw [hs] at h1
  cases h1
  refine ⟨.ref a, hs, .inl ⟨rfl, _, SqL.of h2⟩, h σ H F _ fun v d H1 e1 F1 r1 p1 => ?_⟩
  have hv : H1 a = some (.lst vs) := e1.lst (F.notPen h0) h2
  refine ⟨a, vs, v, rfl, rfl, hv, small24' (by rw [h3.len]; exact hl), ?_⟩
  obtain ⟨F2, tk⟩ := F1.put hi hs hv (DtA.app (h3.mono e1.tup) (.cons r1 .nil))
  exact q d H1 _ e1 p1 (by rw [hv]; exact fun z => nomatch z) F2 tk
theorem el_told {E : XK} {th tx ti : TE} {h : House} {x : Con} {u : UE} (h1 : EvD T po Hb gs env th (encH h)) (h2 : EvD T po Hb gs env tx (encC x)) (h3 : EvD T po Hb gs env ti (encUE u)) (ho : HouseOk h) (hx : ConOk h.sizes x) (hu : UEOk h u) :
    EvL T po Hb gs env (tCall (spTold T) [] E (tCons th (tCons tx (tCons ti tNil)))) (· = (toldU h x u).map encBT) :=
  el_c (args := fun a : House × Con × UE => [.d (encH a.1), .d (encC a.2.1), .d (encUE a.2.2)]) (h, x, u) (ea_c h1 (ea_c h2 (ea_c h3 ea_nil))) ⟨ho, hx, hu⟩
end
/-- the i-th layer as a table -/
def tL (h : House) (c0 : List Con) (us : List UE) : Nat → NT
  | 0 => c0.map fun y => (cK y, .none)
  | i + 1 => encL (layL h (us.getD i (.to 0)) (lastK h c0 (us.take i)))
def tsN (h : House) (c0 : List Con) (us : List UE) (n : Nat) : List NT := (List.range (n + 1)).map (tL h c0 us)
theorem last_snoc {h : House} {c0 : List Con} {us : List UE} {n : Nat} {u : UE} (hu : us[n]? = some u) : lastK h c0 (us.take (n + 1)) = (layL h u (lastK h c0 (us.take n))).map (·.1) := by
  rw [take_snoc hu]
  unfold lastK
  rw [List.foldl_append]
  rfl
theorem tL_keys {h : House} {c0 : List Con} {us : List UE} {n : Nat} (hn : n ≤ us.length) : ((tL h c0 us n).map fun p => kd p.1) = (lastK h c0 (us.take n)).map encC := by
  cases n with
  | zero =>
    show ((c0.map fun y => (cK y, PyData.none)).map fun p => kd p.1) = c0.map encC
    rw [List.map_map]
    exact List.map_congr_left fun x _ => kd_cK x
  | succ n =>
    have hu : us[n]? = some (us.getD n (.to 0)) := at_sz hn _
    rw [last_snoc hu]
    show ((encL (layL h (us.getD n (.to 0)) (lastK h c0 (us.take n)))).map fun p => kd p.1) = _
    rw [List.map_map, List.map_map]
    exact List.map_congr_left fun p _ => kd_cK p.1
theorem asg_lst1 {te : TE} {g : TG} {D : Ends} {σ : L2.St} {H : Hp} (h : te σ H fun x H1 => [x].length ≤ sizeLine ∧ ∀ p, H1 p = none → g (.ref p) σ (upd H1 p (.lst [x])) D.nx) : tAsg (tLst (tCons te tNil)) g D σ H := h
abbrev s_one_true : Stmt := topS 17
theorem sc_one_true : FnScope ["house", "some", "items", "content", "layers", "item", "later", "behind", "told", "history", "layer"] ["house", "some", "items"] (defScope s_one_true) := ⟨rfl, rfl, rfl, by decide +kernel, rfl, by decide +kernel, by decide +kernel⟩
section
variable {P : Program} {w : World} {K : PySem.W.Frag} {mg : Str → Option Value} {base : Heap} {T : List (Addr × Str)}
def spOne (T : List (Addr × Str)) : Sp := SpD T (α := House × List Con × List UE) (fun a => [.d (encH a.1), .d (encS a.2.1), .d (encUEs a.2.2)])
  (fun a => HouseOk a.1 ∧ SetG a.1 a.2.1 ∧ (∀ u ∈ a.2.2, UEOk a.1 u) ∧ a.2.2.length ≤ 1000 ∧ ∃ x ∈ a.2.1, ∃ ts y, PathU a.1 x a.2.2 ts y) (fun a d => ∃ x ∈ a.2.1, ∃ ts y, PathU a.1 x a.2.2 ts y ∧ d = .tuple [encC x, encHist ts])
theorem ok_one (B : Bi mg) {f : Addr} {fd : FuncData} (D : Df K mg "one_true" s_one_true f fd ["house", "some", "items"]) (C1 : Cal P w K mg base "as_set" s_as_set ["found"] 1 (spAsSet P w T)) (C2 : Cal P w K mg base "told_ways" s_told_ways ["house", "content", "item"] 8 (spTold T)) :
    Cal P w K mg base "one_true" s_one_true ["house", "some", "items"] 9 (spOne T) := by
  obtain ⟨fa, fda, D_as_set, G_as_set⟩ := C1
  obtain ⟨fb, fdb, D_told_ways, G_told_ways⟩ := C2
  refine ⟨f, fd, D, D.F.ok sc_one_true (fun vs H Q E h => ?_) (fun cdv A outer s H vs Q E hr h => ?_)⟩
  · obtain ⟨a, h1, _⟩ := h
    exact h1.len
  · obtain ⟨⟨h, ss, us⟩, ⟨ho, hg, hu, hul, x0, hx0, ts0, y0, hpath⟩, F0, k⟩ := SpD.ent (N := ["house", "some", "items", "content", "layers", "item", "later", "behind", "told", "history", "layer"]) h (fun _ => Nat.le_of_ble_eq_true rfl)
    dsimp only at *
    refine ⟨_, (pss_cons (ps_set (i := 4) sc_one_true.nd rfl (Or.inl rfl) (pe_lst (pa_cons (pe_dcN (own := [("content", 3)]) (g := gName 3) (u8 hr) rfl sc_one_true.nd (pi_tup (pv 1)) (blkOk_by (N := ["house", "some", "items", "content", "layers", "item", "later", "behind", "told", "history", "layer"]) (sc := defScope s_one_true) (by decide +kernel)) (fun _ _ _ _ _ => (pg_name (i := 3) sc_one_true.nd rfl (Or.inl rfl))) (fun _ _ _ _ _ => (pv 3)) (fun _ _ _ _ _ => pe_non)) pa_nil)))
      (pss_cons (ps_for PassesOwn.never rfl (pi_tup (pv 2)) (pg_name (i := 5) sc_one_true.nd rfl (Or.inl rfl)) (pss_cons (ps_set (i := 6) sc_one_true.nd rfl (Or.inl rfl) pe_dnewN)
      (pss_cons (ps_for PassesOwn.never rfl (pi_keysN (pe_ix ix_list (pv 4) (pe_un un_neg pe_int) (fun _ _ => rfl))) (pg_name (i := 3) sc_one_true.nd rfl (Or.inl rfl)) (pss_one (ps_for PassesOwn.never rfl (pi_list (pe_call G_told_ways (hr.mono (by omega)) (by rfl) D_told_ways.m D_told_ways.F.kp D_told_ways.b .nil pass0 (pa_cons (pv 0) (pa_cons (pv 3) (pa_cons (pv 5) pa_nil))))) (pg_tup (by rfl) (pgs_cons (pg_name (i := 7) sc_one_true.nd rfl (Or.inl rfl)) (pgs_cons (pg_name (i := 8) sc_one_true.nd rfl (Or.inl rfl)) pgs_nil))) (pss_one (ps_if (pt_cmp (pc_nnotin (u9 hr) (pv 7) (pv 6)) rfl) (pss_one (ps_nset (u9 hr) (pv 6) (pv 7) (pe_tup (pa_cons (pv 3) (pa_cons (pv 8) pa_nil))) rfl)) pss_nil)))))
      (pss_one (ps_expr (pe_bm PySem.F.plainAttrs_list PySem.F.slot_list_append PySem.F.type_list_append mt_append (pv 4) (pa_cons (pv 6) pa_nil)))))))
      (pss_cons (ps_par (i := 3) (j := 9) rfl sc_one_true.nd rfl rfl (by decide) rfl rfl (pa_cons (pe_ix ix_tup (pe_call G_as_set (hr.mono (by omega)) (by rfl) D_as_set.m D_as_set.F.kp D_as_set.b .nil pass0 (pa_cons (pe_ix ix_list (pv 4) (pe_un un_neg pe_int) (fun _ _ => rfl)) pa_nil)) pe_int (fun _ _ => rfl)) (pa_cons (pe_lst pa_nil) pa_nil)) (by rfl))
      (pss_cons (ps_for PassesOwn.never rfl (pi_list (pe_rev1 (pv 4))) (pg_name (i := 10) sc_one_true.nd rfl (Or.inl rfl)) (pss_cons (ps_asg (pe_nget (u9 hr) (pv 10) (pv 3) (fun _ _ => rfl)) (pg_tup (by rfl) (pgs_cons (pg_name (i := 3) sc_one_true.nd rfl (Or.inl rfl)) (pgs_cons (pg_name (i := 8) sc_one_true.nd rfl (Or.inl rfl)) pgs_nil))))
      (pss_one (ps_expr (pe_bm PySem.F.plainAttrs_list PySem.F.slot_list_append PySem.F.type_list_append mt_append (pv 9) (pa_cons (pv 8) pa_nil))))))
      (pss_one (ps_ret (pe_tup (pa_cons (pv 3) (pa_cons (pe_tupleOf (by rfl) B.tuple (pe_revL (pv 9))) pa_nil))))))))), ?_⟩
    have l8 := hg.le8 ho
    have wk := (ei_tup (K := K) (T := T) (po := none) (Hb := H) (gs := []) (env := [.d (encH h), .d (encS ss), .d (encUEs us), .u, .u, .u, .u, .u, .u, .u, .u]) (tl := tVar 1) (ds := ss.map encC) (ev_v rfl)).c
    have dc : EvN P w T none H [] [.d (encH h), .d (encS ss), .d (encUEs us), .u, .u, .u, .u, .u, .u, .u, .u] (tDcN P w (iTup K (tVar 1)) (gName 3) (tVar 3) (tC .non) [3]) _ := en_dc (P := P) (w := w) (ta := tVar 3) (tb := tC .non) (c := .none) nk wk (tg_name (i := 3)) (fun ds e => by
        subst e
        refine ⟨by rw [List.length_map]; omega, fun d hd => ?_⟩
        obtain ⟨x, hx, rfl⟩ := List.mem_map.mp hd
        exact ⟨trivial, by rw [nk_encC, kd_cK], by rw [nk_encC, dep_cK]; decide, _, rfl⟩) (fun ds e d hd => ev_v rfl) (fun ds e d hd => ev_n)
    refine sq (asg_lst1 (dc _ _ F0 _ fun a0 kvs0 H1 e1 F1 n1 hD1 ⟨ds1, p1, p2⟩ => ⟨by rw [sizeLine_eq]; exact Nat.le_of_ble_eq_true rfl, fun L hL => ?_⟩))
    subst p1
    obtain ⟨c0, c1, c2, c3⟩ := build_con .none ss
    rw [c1] at p2
    subst p2
    have hc0 : SetG h c0 := ⟨fun x hx => hg.all x ((c3 x).mp hx), c2⟩
    have eL : Ex T none H1 (L2.upd H1 L (.lst [.ref a0])) := Ex.new hL
    have F2 : Fr T none H [] [.d (encH h), .d (encS ss), .d (encUEs us), .u, .r (.ref L), .u, .u, .u, .u, .u, .u] (L2.upd H1 L (.lst [.ref a0])) _ := (F1.mono eL).setR (i := 4) (v := .ref L)
    have lay0 : LayH P w H (L2.upd H1 L (.lst [.ref a0])) L [a0] (tsN h c0 us 0) := ⟨F1.ext.dom L hL, upd_same, .cons ⟨F0.ext.dom a0 n1, hD1.keep eL NP.none⟩ .nil⟩
    have sml : ∀ n : Nat, n ≤ 2000 → n < sizeLine := fun n hn => by rw [sizeLine_eq]; omega
    have keyD : ∀ {H' : Hp} {v : V} {y : Con}, Dt H' v (encC y) → ∃ t, v = .ref t ∧ Dt H' (.ref t) (kd (cK y)) := fun {H' v y} r => by
      obtain ⟨t, xs, rfl, _⟩ := id r.t
      exact ⟨t, rfl, by rw [kd_cK]; exact r⟩
    refine sq (st_forT (K := K) (ds := us.map encUE) (fun n env' σ' H' => ∃ x3 x5 x6 x7 x8 as, env' = [.d (encH h), .d (encS ss), .d (encUEs us), x3, .r (.ref L), x5, x6, x7, x8, .u, .u] ∧ (∀ x ∈ [x3, x5, x6, x7, x8], ∀ ys, x ≠ AV.l ys) ∧ LayH P w H H' L as (tsN h c0 us n)) F2 (ev_v rfl) (fun H2 e2 => ⟨_, _, _, _, _, [a0], rfl, by simp, lay0.mono e2⟩) (fun v0 n d v env' σ' H' hd F' hI hv => ?_) (fun env' σ' H' F' hI => ?_))
    · obtain ⟨x3, x5, x6, x7, x8, as, rfl, nl, lay⟩ := hI
      rw [List.getElem?_map] at hd
      obtain ⟨u, hun, rfl⟩ := Option.map_eq_some_iff.mp hd
      have huo := hu u (List.mem_of_getElem? hun)
      have hnl : n < us.length := (List.getElem?_eq_some_iff.mp hun).1
      have hut : us.getD n (.to 0) = u := getD_of hun
      have gk : SetG h (lastK h c0 (us.take n)) := last_g ho (fun x hx => hu x (List.mem_of_mem_take hx)) hc0
      have las : as.length = n + 1 := by rw [lay.al.length]; unfold tsN; rw [List.length_map, List.length_range]
      -- the last layer
      obtain ⟨an, han⟩ : ∃ a, as[n]? = some a := ⟨as[n]'(by omega), List.getElem?_eq_getElem (by omega)⟩
      refine gN F' hv fun F3 => ?_
      refine sq (show tAsg (tDNew P w) (gName 6) _ _ _ from fun b ob hb hob => ?_)
      have eb : Ex T none H' (L2.upd H' b (DNo P w b ob [])) := Ex.new hb
      have F4 := (F3.mono eb).setR (i := 6) (v := .ref b)
      have lay4 := lay.mono eb
      have hbL : L ≠ b := fun e => by rw [← e, lay.l1] at hb; cases hb
      have hba : b ∉ as := fun hm => by
        obtain ⟨i, hi⟩ := List.mem_iff_getElem?.mp hm
        obtain ⟨t, _, _, _, o, xs, h1, _⟩ := pair_get lay.al hi
        rw [hb] at h1
        cases h1
      have hb0 : H b = none := F'.ext.dom b hb
      have hDb : DN P w (L2.upd H' b (DNo P w b ob [])) b (encL []) := ⟨Nat.zero_le _, ob, [], upd_same, .nil, hob⟩
      obtain ⟨tn, htn, han0, hzn, on, xn, hn1, hn2, hn3⟩ := pair_get lay4.al han
      have etn : tn = tL h c0 us n := by
        have q : (tsN h c0 us n)[n]? = some (tL h c0 us n) := by unfold tsN; rw [List.getElem?_map, List.getElem?_range (by omega)]; rfl
        rw [q] at htn
        exact (Option.some.inj htn).symm
      subst etn
      have kn := tL_keys (h := h) (c0 := c0) (us := us) (n := n) (by omega)
      have jw := jw_keys (P := P) (w := w) (a := an) (o := on) hn2
      rw [kn] at jw
      have hdk : DtA (L2.upd H' b (DNo P w b ob [])) (xn.map fun x => .ref x.2.1) ((lastK h c0 (us.take n)).map encC) := by
        rw [← kn]
        exact ents_dt hn2
      have hat : atI (as.map V.ref) (-1) = some (.ref an) := atI_neg1 (n := n) (by rw [List.length_map]; exact las) (by rw [List.getElem?_map, han]; rfl)
      have hnb : an ≠ b := fun e => hba (e ▸ List.mem_of_getElem? han)
      dsimp only
      refine sq (show tFor (iKeysN P w (tOp (rIxL K) (tVar 4) (tUn (rU fun i => .int (-i)) (tC (.int 1))))) (gName 3) _ _ _ _ from
        ⟨.ref L, F4.rf (i := 4) rfl, 1, rfl, L, as.map V.ref, -1, .ref an, rfl, rfl, SqL.of lay4.l1, hat, an, on, xn, rfl, hn1,
          for_JW jw (fun m σ2 H2 => ∃ y3 y7 y8, (∀ x ∈ [y3, y7, y8], ∀ ys, x ≠ AV.l ys) ∧ Fr T none H ((v0, .d (.tuple (us.map encUE))) :: []) [.d (encH h), .d (encS ss), .d (encUEs us), y3, .r (.ref L), .d (encUE u), .r (.ref b), y7, y8, .u, .u] H2 σ2 ∧ LayH P w H H2 L as (tsN h c0 us n) ∧
            DN P w H2 b (encL (((lastK h c0 (us.take n)).take m).foldl (fun l x => stepL x (toldU h x u) l) [])) ∧ H2 an = some (DNo P w an on xn) ∧ DtA H2 (xn.map fun x => .ref x.2.1) ((lastK h c0 (us.take n)).map encC)) ?_ ?_ ?_ ?_ ?_⟩)
      · rintro m σ2 H2 ⟨y3, y7, y8, _, _, _, _, q1, q2⟩
        exact ⟨q1, q2⟩
      · rintro m σ2 H2 H3 ⟨y3, y7, y8, nl2, F5, q3, q4, q1, q2⟩ ex
        have e := ex T none
        exact ⟨y3, y7, y8, nl2, F5.mono e, q3.mono e, q4.keep e NP.none, e.keep _ _ NP.none (by intro _ z; cases z) q1, q2.mono e.tup⟩
      · exact ⟨x3, x7, x8, fun x hx => nl x (by simp at hx ⊢; rcases hx with h | h | h <;> simp [h]), F4, lay4, hDb, hn1, hdk⟩
      · rintro m d x σ2 H2 hdm ⟨y3, y7, y8, nl2, F5, q3, q4, q1, q2⟩ rx
        rw [List.getElem?_map] at hdm
        obtain ⟨c, hcm, rfl⟩ := Option.map_eq_some_iff.mp hdm
        have hco := gk.all c (List.mem_of_getElem? hcm)
        refine gN F5 rx fun F6 => ?_
        have lmem : ∀ {j : Nat}, ((stepL c ((toldU h c u).take j) (((lastK h c0 (us.take n)).take m).foldl (fun l x => stepL x (toldU h x u) l) [])).map (·.1)).length ≤ 8 := fun {j} => by
          have o1 : LayOk h u (lastK h c0 (us.take n)) (((lastK h c0 (us.take n)).take m).foldl (fun l x => stepL x (toldU h x u) l) []) := layF_ok (fun x hx => List.mem_of_mem_take hx) ⟨List.nodup_nil, fun _ z => nomatch z⟩
          have o2 := stepL_ok (x := c) (List.mem_of_getElem? hcm) (ps := (toldU h c u).take j) (fun p hp => List.mem_of_mem_take hp) o1
          refine nd_le8 ho (fun y hy => ?_) o2.1
          obtain ⟨p, hp, rfl⟩ := List.mem_map.mp hy
          obtain ⟨h3, h4⟩ := o2.2 p hp
          exact told_ok ho huo (gk.all _ h3) _ h4
        refine st_forL (K := K) (fun ds j env' σ' H' => ∃ z7 z8, env' = [.d (encH h), .d (encS ss), .d (encUEs us), .d (encC c), .r (.ref L), .d (encUE u), .r (.ref b), z7, z8, .u, .u] ∧ (∀ x ∈ [z7, z8], ∀ ys, x ≠ AV.l ys) ∧ LayH P w H H' L as (tsN h c0 us n) ∧
            DN P w H' b (encL (stepL c ((toldU h c u).take j) (((lastK h c0 (us.take n)).take m).foldl (fun l x => stepL x (toldU h x u) l) []))) ∧ H' an = some (DNo P w an on xn) ∧ DtA H' (xn.map fun x => .ref x.2.1) ((lastK h c0 (us.take n)).map encC)) F6 (el_told (ev_v rfl) (ev_v rfl) (ev_v rfl) ho hco huo) (fun ds H3 e3 p3 => ⟨y7, y8, rfl, fun x hx => nl2 x (List.mem_cons_of_mem _ hx), q3.mono e3, q4.keep e3 NP.none, e3.keep _ _ NP.none (by intro _ z; cases z) q1, q2.mono e3.tup⟩) (fun v1 ds j d v2 env' σ' H3 p3 hdj F7 hI rv => ?_) (fun ds env' σ' H3 p3 F7 hI => ?_)
        · obtain ⟨z7, z8, rfl, nl3, r3, r4, r1, r2⟩ := hI
          subst p3
          rw [List.getElem?_map] at hdj
          obtain ⟨⟨y, t⟩, hyt, rfl⟩ := Option.map_eq_some_iff.mp hdj
          refine gN2 F7 rv fun w7 w8 F8 => ?_
          obtain ⟨v7, hv7, rv7⟩ := F8.dat (i := 7) rfl
          obtain ⟨t7, rfl, rk7⟩ := keyD rv7
          have nxt : stepL c ((toldU h c u).take (j + 1)) (((lastK h c0 (us.take n)).take m).foldl (fun l x => stepL x (toldU h x u) l) []) = addL (stepL c ((toldU h c u).take j) (((lastK h c0 (us.take n)).take m).foldl (fun l x => stepL x (toldU h x u) l) [])) y c t := by
            rw [take_snoc hyt]
            unfold stepL
            rw [List.foldl_append]
            rfl
          have lm := lmem (j := j)
          generalize hl0 : stepL c ((toldU h c u).take j) (((lastK h c0 (us.take n)).take m).foldl (fun l x => stepL x (toldU h x u) l) []) = l0 at r4 nxt lm
          refine (show tIfS (tB (tNNotIn P w (tVar 7) (tVar 6))) (sNSet P w (tVar 6) (tVar 7) (tTup (tCons (tVar 3) (tCons (tVar 8) tNil)))) tNext _ _ _ from ⟨.ref t7, hv7, .ref b, F8.rf (i := 6) rfl, b, t7, encL l0, cK y, rfl, rfl, r4, rk7, by rw [dep_cK]; decide, _, rfl, ?_⟩)
          by_cases hy : y ∈ l0.map (·.1)
          · obtain ⟨x1, t1, _, hval⟩ := (valL (y := y) (l := l0)).1 hy
            rw [hval]
            refine ⟨_, F8, .d (encC y), .d (encTE t), rfl, by simp, r3, ?_, r1, r2⟩
            rw [nxt, addL_old hy]
            exact r4
          · have hval := (valL (y := y) (l := l0)).2 hy
            rw [hval]
            refine (show sNSet P w (tVar 6) (tVar 7) (tTup (tCons (tVar 3) (tCons (tVar 8) tNil))) _ _ _ from ev_tup (eu_c (ev_v (i := 3) rfl) (eu_c (ev_v (i := 8) rfl) eu_nil)) (Nat.le_of_ble_eq_true rfl) _ _ F8 _ fun v3 H4 e4 F9 r9 => ?_)
            have r4' := r4.keep e4 NP.none
            refine ⟨.ref b, F9.rf (i := 6) rfl, .ref t7, hv7, b, t7, encL l0, cK y, .tuple [encC c, encTE t], rfl, rfl, r4', rk7.mono e4.tup, by rw [dep_cK]; decide, sml _ (by rw [List.length_map] at lm ⊢; omega), r9, fun o' xs' hd' => ?_⟩
            obtain ⟨F10, tk⟩ := F9.putN (o := DNo P w b o' xs') hb0 r4' (F9.offN r4')
            refine ⟨_, F10, .d (encC y), .d (encTE t), rfl, by simp, (r3.mono e4).upd hbL hba tk, ?_, ?_, (r2.mono e4.tup).mono tk⟩
            · rw [nxt, addL_new hy, ← setL_new hy]
              exact hd'
            · rw [upd_ne hnb]
              exact e4.keep _ _ NP.none (by intro _ z; cases z) r1
        · obtain ⟨z7, z8, rfl, nl3, r3, r4, r1, r2⟩ := hI
          subst p3
          rw [List.length_map, List.take_length] at r4
          refine ⟨.d (encC c), z7, z8, fun x hx => ?_, F7, r3, ?_, r1, r2⟩
          · rcases List.mem_cons.mp hx with rfl | hx
            · exact fun _ q => nomatch q
            · exact nl3 x hx
          · rw [take_snoc hcm, List.foldl_append]
            exact r4
      · rintro σ2 H2 ⟨y3, y7, y8, nl2, F5, q3, q4, q1, q2⟩
        rw [List.length_map, List.take_length] at q4
        refine (show tDrop (tBM K "list" rAppend (tVar 4) (tCons (tVar 6) tNil)) _ _ _ from ⟨.ref L, F5.rf (i := 4) rfl, .inl ⟨rfl, _, SqL.of q3.l1⟩, .ref b, F5.rf (i := 6) rfl, L, as.map V.ref, .ref b, rfl, rfl, q3.l1, sml _ (by rw [List.length_map]; omega), ?_⟩)
        have nlo : ∀ x ∈ [AV.d (encH h), .d (encS ss), .d (encUEs us), y3, .r (.ref L), .d (encUE u), .r (.ref b), y7, y8, .u, .u], ∀ ys, x ≠ AV.l ys := by
          intro x hx ys
          simp only [List.mem_cons, List.not_mem_nil, or_false] at hx
          rcases hx with rfl | rfl | rfl | rfl | rfl | rfl | rfl | rfl | rfl | rfl | rfl
          all_goals first
            | (intro q; cases q; done)
            | exact nl2 _ (by simp) ys
        have eap : (as.map V.ref) ++ [V.ref b] = (as ++ [b]).map V.ref := by rw [List.map_append]; rfl
        rw [eap]
        obtain ⟨F6, tk⟩ := F5.other (o := .lst ((as ++ [b]).map V.ref)) q3.l0 q3.l1 (fun z => z) (fun q ps => ⟨fun z => codeO_lst _ z.symm, fun z => nomatch z⟩) (offS nlo fun g hg ys => by rw [List.mem_singleton.mp hg]; exact fun q => nomatch q)
        refine ⟨_, F6, y3, .d (encUE u), .r (.ref b), y7, y8, as ++ [b], rfl, fun x hx ys => ?_, ?_⟩
        · simp only [List.mem_cons, List.not_mem_nil, or_false] at hx
          rcases hx with rfl | rfl | rfl | rfl | rfl
          all_goals first
            | (intro q; cases q; done)
            | exact nl2 _ (by simp) ys
        · have z := q3.snoc hb0 q4 tk
          have e : tsN h c0 us (n + 1) = tsN h c0 us n ++ [encL ((lastK h c0 (us.take n)).foldl (fun l x => stepL x (toldU h x u) l) [])] := by
            unfold tsN
            rw [List.range_succ, List.map_append]
            congr 1
            show [encL (layL h (us.getD n (.to 0)) (lastK h c0 (us.take n)))] = _
            rw [hut]
            rfl
          rw [e]
          exact z
    · obtain ⟨x3, x5, x6, x7, x8, as, rfl, nl, lay⟩ := hI
      rw [List.length_map] at lay
      have las : as.length = us.length + 1 := by rw [lay.al.length]; unfold tsN; rw [List.length_map, List.length_range]
      obtain ⟨an, han⟩ : ∃ a, as[us.length]? = some a := ⟨as[us.length]'(by omega), List.getElem?_eq_getElem (by omega)⟩
      have hat : atI (as.map V.ref) (-1) = some (.ref an) := atI_neg1 (n := us.length) (by rw [List.length_map]; exact las) (by rw [List.getElem?_map, han]; rfl)
      have gk : SetG h (lastK h c0 us) := last_g ho hu hc0
      have tkeys : ∀ (n : Nat) (a : Addr) (H2 : Hp), n ≤ us.length → LayH P w H H2 L as (tsN h c0 us us.length) → as[n]? = some a → DN P w H2 a (tL h c0 us n) := fun n a H2 hn l2 ha => by
        obtain ⟨t, ht, _, hd⟩ := pair_get l2.al ha
        have q : (tsN h c0 us us.length)[n]? = some (tL h c0 us n) := by unfold tsN; rw [List.getElem?_map, List.getElem?_range (by omega)]; rfl
        rw [q] at ht
        cases ht
        exact hd
      have kn := tL_keys (h := h) (c0 := c0) (us := us) (n := us.length) (Nat.le_refl _)
      rw [List.take_length] at kn
      have cs := csm_of ho gk.all
      have hz : ∃ z r, norm (lastK h c0 us) = z :: r := by
        cases e : norm (lastK h c0 us) with
        | nil =>
          have m := (norm_mem cs y0).mpr (last_has ((c3 x0).mpr hx0) hpath)
          rw [e] at m
          cases m
        | cons z r => exact ⟨z, r, rfl⟩
      obtain ⟨z0, zr, ez⟩ := hz
      have hz0 : z0 ∈ lastK h c0 us := norm_sub (by rw [ez]; exact List.mem_cons_self)
      dsimp only
      refine sq (show tPar 3 9 (tCons (tOp (rIxT K) (tCall (spAsSet P w T) [] E0 (tCons (tOp (rIxL K) (tVar 4) (tUn (rU fun i => .int (-i)) (tC (.int 1)))) tNil)) (tC (.int 0))) (tCons (tLst tNil) tNil)) _ _ _ from
        ⟨.ref L, F'.rf (i := 4) rfl, 1, rfl, L, as.map V.ref, -1, .ref an, rfl, rfl, SqL.of lay.l1, hat, .ref an, lastK h c0 us, h.sizes.length, rfl, .inr (.inr ⟨an, _, rfl, tkeys _ _ _ (Nat.le_refl _) lay han, kn⟩), by have := gk.le8 ho; omega, ho.s1, cs, fun v1 H2 e2 r2 => ?_⟩)
      obtain ⟨q1, us1, rfl, q2, q3⟩ := r2.t
      rw [ez] at q3
      obtain ⟨v3, hv3, rv3⟩ := q3.at (i := 0) (d := encC z0) (atI_nat (xs := encC z0 :: zr.map encC) (j := 0) rfl)
      refine ⟨q1, us1, 0, v3, rfl, rfl, SqT.of q2, hv3, Nat.zero_le _, fun p hp => ⟨v3, .ref p, rfl, ?_⟩⟩
      have ep : Ex T none H2 (L2.upd H2 p (.lst [])) := Ex.new hp
      have G1 : Fr T none H [] _ H2 _ := (F'.mono e2).setD (i := 3) rv3
      have offp := G1.off hp
      have G2 : Fr T none H [] [.d (encH h), .d (encS ss), .d (encUEs us), .d (encC z0), .r (.ref L), x5, x6, x7, x8, .l [], .u] (L2.upd H2 p (.lst [])) _ := (G1.mono ep).setL (i := 9) (F'.ext.dom p (e2.dom p hp)) upd_same .nil offp
      have lay2 := (lay.mono e2).mono ep
      have hpL : L ≠ p := fun e => by rw [← e, (lay.mono e2).l1] at hp; cases hp
      have hpa : p ∉ as := fun hm => by
        obtain ⟨i, hi⟩ := List.mem_iff_getElem?.mp hm
        obtain ⟨t, _, _, _, o, xs, h1, _⟩ := pair_get (lay.mono e2).al hi
        rw [hp] at h1
        cases h1
      have s9 : ∀ (σ : L2.St) (x : V), 9 < σ.length → (((σ.set 3 (some x)).set 9 (some (.ref p))))[9]? = some (some (.ref p)) := fun σ x hl => List.getElem?_set_self (by rw [List.length_set]; exact hl)
      have hs9 := s9 σ' v3 (by rw [← F'.len]; exact Nat.le_of_ble_eq_true rfl)
      generalize ((σ'.set 3 (some v3)).set 9 (some (V.ref p))) = σ1 at G2 hs9
      generalize L2.upd H2 p (.lst []) = H3 at G2 lay2
      dsimp only
      have et : (as.map V.ref).tail.reverse = as.tail.reverse.map V.ref := by rw [← List.map_tail, List.map_reverse]
      refine sq (show tFor (iList K (tRev1 K (tVar 4))) (gName 10) _ _ _ _ from ⟨.ref L, G2.rf (i := 4) rfl, L, as.map V.ref, rfl, SqL.of lay2.l1, by rw [List.length_map]; omega, fun R hR => ⟨R, rfl, ⟨_, SqL.of upd_same⟩,
        for_refs (as := as.tail.reverse) (fun m σ2 H2 => ∃ (x : Con) (hs : List TEv) (y5 y6 y7 y8 y10 : AV), Fr T none H [] [.d (encH h), .d (encS ss), .d (encUEs us), .d (encC x), .r (.ref L), y5, y6, y7, y8, .l (hs.map encTE), y10] H2 σ2 ∧ σ2[9]? = some (some (.ref p)) ∧ LayH P w H H2 L as (tsN h c0 us us.length) ∧ H2 R = some (.lst (as.tail.reverse.map V.ref)) ∧ m ≤ us.length ∧ x ∈ lastK h c0 (us.take (us.length - m)) ∧ hs.length = m ∧ ∃ y, PathU h x (us.drop (us.length - m)) hs.reverse y) ?_ ?_ ?_ ?_⟩⟩)
      · rintro m σ2 H4 ⟨x, hs, y5, y6, y7, y8, y10, _, _, _, q4, _⟩
        exact q4
      · have eR : Ex T none H3 (L2.upd H3 R (.lst (as.map V.ref).tail.reverse)) := Ex.new hR
        refine ⟨z0, [], x5, x6, x7, x8, .u, G2.mono eR, hs9, lay2.mono eR, by rw [upd_same, et], Nat.zero_le _, by rw [Nat.sub_zero, List.take_length]; exact hz0, rfl, z0, ?_⟩
        rw [Nat.sub_zero, List.drop_length]
        exact .nil
      · rintro m b σ2 H4 hmb ⟨x, hs, y5, y6, y7, y8, y10, G3, hs9', lay3, hR3, hm, hxk, hhs, y, hp⟩
        have hlen : as.tail.reverse.length = us.length := by rw [List.length_reverse, List.length_tail, las]; rfl
        have hm1 : m < us.length := by rw [← hlen]; exact (List.getElem?_eq_some_iff.mp hmb).1
        obtain ⟨kk, hkk⟩ : ∃ kk, us.length - m = kk + 1 := ⟨us.length - m - 1, by omega⟩
        have hk1 : us.length - (m + 1) = kk := by omega
        have hb : as[kk + 1]? = some b := by
          rw [List.getElem?_reverse (by rw [List.length_tail, las]; omega), List.length_tail, las] at hmb
          have e : us.length + 1 - 1 - 1 - m = kk := by omega
          rw [e, List.getElem?_tail] at hmb
          exact hmb
        have hDb := tkeys (kk + 1) b H4 (by omega) lay3 hb
        have huk : us[kk]? = some (us.getD kk (.to 0)) := at_sz (by omega) _
        rw [hkk] at hxk hp
        rw [last_snoc huk] at hxk
        obtain ⟨x1, t1, hmem, hval⟩ := (valL (y := x)).1 hxk
        obtain ⟨hx1, ht1⟩ := (layL_ok h (us.getD kk (.to 0)) (lastK h c0 (us.take kk))).2 _ hmem
        have G4 : Fr T none H [] [.d (encH h), .d (encS ss), .d (encUEs us), .d (encC x), .r (.ref L), y5, y6, y7, y8, .l (hs.map encTE), .r (.ref b)] H4 (σ2.set 10 (some (.ref b))) := G3.setR (i := 10) (v := .ref b)
        have hs10 : (σ2.set 10 (some (V.ref b)))[9]? = some (some (.ref p)) := by rw [List.getElem?_set_ne (by decide)]; exact hs9'
        show tSeq _ _ _ (σ2.set 10 (some (.ref b))) H4
        generalize σ2.set 10 (some (V.ref b)) = σ3 at G4 hs10
        obtain ⟨w3, hw3, rw3⟩ := G4.dat (i := 3) rfl
        obtain ⟨tt3, rfl, rk3⟩ := keyD rw3
        refine sq (show tAsg (tNGet P w (tVar 10) (tVar 3)) (gTup K 2 (gCons (gName 3) (gCons (gName 8) gNil))) _ _ _ from ⟨.ref b, G4.rf (i := 10) rfl, .ref tt3, hw3, b, tt3, _, cK x, _, rfl, rfl, hDb, rk3, by rw [dep_cK]; decide, hval, fun v rv => gN2 G4 rv fun a3 a8 G5 => ?_⟩)
        have hs11 : ((σ3.set 3 (some a3)).set 8 (some a8))[9]? = some (some (.ref p)) := by rw [List.getElem?_set_ne (by decide), List.getElem?_set_ne (by decide)]; exact hs10
        refine st_appX (i := 9) G5 rfl hs11 (by rw [List.length_map]; omega) (ev_v (i := 8) rfl).ev fun d H5 ws e5 p5 hne G6 tk => ?_
        subst p5
        have lay5 := (lay3.mono e5).upd (o := .lst ws) hpL hpa tk
        have hRp : R ≠ p := fun e => by
          obtain ⟨a9, vs9, g1, _, g3, _⟩ := G2.lst (i := 9) rfl
          rw [hs9] at g1
          cases g1
          rw [e] at hR
          rw [hR] at g3
          cases g3
        refine ⟨x1, hs ++ [t1], y5, y6, y7, .d (encTE t1), .r (.ref b), ?_, hs11, lay5, ?_, hm1, by rw [hk1]; exact hx1, by rw [List.length_append, hhs]; rfl, y, ?_⟩
        · have e : hs.map encTE ++ [encTE t1] = (hs ++ [t1]).map encTE := by rw [List.map_append]; rfl
          rw [← e]
          exact G6
        · rw [upd_ne hRp]
          exact e5.lst NP.none hR3
        · obtain ⟨hk, hkv⟩ := List.getElem?_eq_some_iff.mp huk
          rw [hk1, List.reverse_append, List.drop_eq_getElem_cons hk, hkv]
          exact .cons ht1 hp
      · rintro σ2 H4 ⟨x, hs, y5, y6, y7, y8, y10, G3, hs9', lay3, hR3, hm, hxk, hhs, y, hp⟩
        have hlen : as.tail.reverse.length = us.length := by rw [List.length_reverse, List.length_tail, las]; rfl
        rw [hlen, Nat.sub_self] at hxk hp
        dsimp only
        refine st_ret G3 (ev_tup (eu_c (ev_v (i := 3) rfl) (eu_c (Ev.one ((ev_tuple (K := K) (el_revL (K := K) (ek_l (i := 9) rfl)).k).imp fun d ⟨ds, ⟨ds', e1, e2⟩, e3⟩ => by rw [e3, e2, e1])) eu_nil)) (Nat.le_of_ble_eq_true rfl)).ev fun v d H5 e5 r5 p5 => k v d H5 e5 r5 ⟨x, (c3 x).mp hxk, hs.reverse, y, hp, ?_⟩
        rw [p5]
        show _ = PyData.tuple [encC x, .tuple (hs.reverse.map encTE)]
        rw [List.map_reverse]
end
end K22
/-! KW: ways of looking that fit, what they cost, in plain data. -/
namespace K22
open PySem L2
mutual
/-- a way that fits at the place p with the set s -/
inductive WayOk (h : House) (r : Route) : Nat → List Con → Way → Prop
  | fin {p : Nat} {s : List Con} : WayOk h r p s .fin
  | look {p c : Nat} {s : List Con} {ws : Ways} : c < h.sizes.length → WaysOk h r ((partedC h s c).map fun q => (q.1, p, q.2)) ws → WayOk h r p s (.look c ws)
  | on {p : Nat} {s : List Con} {l : List (Nat × List Con)} {ws : Ways} : goC h r p s = some l → WaysOk h r (l.map fun q => (q.1, q.1, q.2)) ws → WayOk h r p s (.on ws)
inductive WaysOk (h : House) (r : Route) : List (Nat × Nat × List Con) → Ways → Prop
  | nil : WaysOk h r [] .nil
  | cons {k p : Nat} {s : List Con} {l : List (Nat × Nat × List Con)} {w : Way} {ws : Ways} : WayOk h r p s w → WaysOk h r l ws → WaysOk h r ((k, p, s) :: l) (.cons k w ws)
end
mutual
def Way.dep : Way → Nat
  | .fin => 1
  | .on ws => ws.dep + 1
  | .look _ ws => ws.dep + 1
def Ways.dep : Ways → Nat
  | .nil => 0
  | .cons _ w r => max w.dep r.dep
end
mutual
/-- how often it goes on at most -/
def Way.ons : Way → Nat
  | .fin => 0
  | .on ws => ws.ons + 1
  | .look _ ws => ws.ons
def Ways.ons : Ways → Nat
  | .nil => 0
  | .cons _ w r => max w.ons r.ons
end
def itemAt (r : Route) (p : Nat) : Item := (r.getD p (.rest, [])).1
mutual
/-- all that may be paid, with what happens -/
def evsOf (r : Route) (cs : List Nat) : Nat → Way → List (Nat × List UE)
  | _, .fin => [(0, [])]
  | p, .look c ws => evsLook r cs c p ws
  | p, .on ws => evsOn r cs p ws
def evsLook (r : Route) (cs : List Nat) (c : Nat) (p : Nat) : Ways → List (Nat × List UE)
  | .nil => []
  | .cons v w ws => (evsOf r cs p w).map (fun e => (e.1 + cs.getD c 0, .saw c v :: e.2)) ++ evsLook r cs c p ws
def evsOn (r : Route) (cs : List Nat) (p : Nat) : Ways → List (Nat × List UE)
  | .nil => []
  | .cons n w ws => (evsOf r cs n w).map (fun e => (e.1, .item (itemAt r p) :: .to n :: e.2)) ++ evsOn r cs p ws
end
/-- the dearest of a list -/
def Best (l : List (Nat × List UE)) (e : Nat × List UE) : Prop := e ∈ l ∧ ∀ e' ∈ l, e'.1 ≤ e.1
/-- one for each branch, each the dearest of its own -/
inductive Bests : List (List (Nat × List UE)) → List (Nat × List UE) → Prop
  | nil : Bests [] []
  | cons {l : List (Nat × List UE)} {e : Nat × List UE} {ls : List (List (Nat × List UE))} {es : List (Nat × List UE)} : Best l e → Bests ls es → Bests (l :: ls) (e :: es)
theorem Bests.snoc {ls : List (List (Nat × List UE))} {es : List (Nat × List UE)} {l : List (Nat × List UE)} {e : Nat × List UE} (h : Bests ls es) (b : Best l e) : Bests (ls ++ [l]) (es ++ [e]) := by
  induction h with
  | nil => exact .cons b .nil
  | cons h _ ih => exact .cons h ih
theorem Bests.len {ls : List (List (Nat × List UE))} {es : List (Nat × List UE)} (h : Bests ls es) : es.length = ls.length := by
  induction h with
  | nil => rfl
  | cons _ _ ih => rw [List.length_cons, List.length_cons, ih]
/-- the dearest of the dearest is the dearest of all -/
theorem Bests.best {ls : List (List (Nat × List UE))} {es : List (Nat × List UE)} (h : Bests ls es) {e : Nat × List UE} (he : e ∈ es) (hm : ∀ e' ∈ es, e'.1 ≤ e.1) : Best ls.flatten e := by
  have go : ∀ {ls : List (List (Nat × List UE))} {es : List (Nat × List UE)}, Bests ls es → (∀ x ∈ es, x ∈ ls.flatten) ∧ ∀ y ∈ ls.flatten, ∃ x ∈ es, y.1 ≤ x.1 := by
    intro ls es h
    induction h with
    | nil => exact ⟨fun x hx => (nomatch hx), fun y hy => (nomatch hy)⟩
    | cons b _ ih =>
      refine ⟨fun x hx => ?_, fun y hy => ?_⟩
      · rw [List.flatten_cons]
        rcases List.mem_cons.mp hx with rfl | hx
        · exact List.mem_append_left _ b.1
        · exact List.mem_append_right _ (ih.1 x hx)
      · rw [List.flatten_cons] at hy
        rcases List.mem_append.mp hy with hy | hy
        · exact ⟨_, List.mem_cons_self, b.2 y hy⟩
        · obtain ⟨x, hx, hle⟩ := ih.2 y hy
          exact ⟨x, List.mem_cons_of_mem _ hx, hle⟩
  obtain ⟨g1, g2⟩ := go h
  refine ⟨g1 e he, fun y hy => ?_⟩
  obtain ⟨x, hx, hle⟩ := g2 y hy
  exact Nat.le_trans hle (hm x hx)
theorem evsLook_flat (r : Route) (cs : List Nat) (c p : Nat) : ∀ ws : Ways, evsLook r cs c p ws = (ws.list.map fun q => (evsOf r cs p q.2).map fun e => (e.1 + cs.getD c 0, UE.saw c q.1 :: e.2)).flatten
  | .nil => by rw [evsLook, Ways.list]; rfl
  | .cons v w ws => by rw [evsLook, Ways.list, List.map_cons, List.flatten_cons, evsLook_flat r cs c p ws]
theorem evsOn_flat (r : Route) (cs : List Nat) (p : Nat) : ∀ ws : Ways, evsOn r cs p ws = (ws.list.map fun q => (evsOf r cs q.1 q.2).map fun e => (e.1, UE.item (itemAt r p) :: UE.to q.1 :: e.2)).flatten
  | .nil => by rw [evsOn, Ways.list]; rfl
  | .cons v w ws => by rw [evsOn, Ways.list, List.map_cons, List.flatten_cons, evsOn_flat r cs p ws]
theorem Best.map {l : List (Nat × List UE)} {e : Nat × List UE} (b : Best l e) (k : Nat) (f : List UE → List UE) : Best (l.map fun x => (x.1 + k, f x.2)) (e.1 + k, f e.2) :=
  ⟨List.mem_map.mpr ⟨e, b.1, rfl⟩, fun y hy => by
    obtain ⟨x, hx, rfl⟩ := List.mem_map.mp hy
    have := b.2 x hx
    show x.1 + k ≤ e.1 + k
    omega⟩
/-- ways that fit stand side by side with what they fit to -/
theorem WaysOk.paired {h : House} {r : Route} : ∀ {l : List (Nat × Nat × List Con)} {ws : Ways}, WaysOk h r l ws → Paired (fun q x => x.1 = q.1 ∧ WayOk h r q.2.1 q.2.2 x.2) l ws.list
  | _, _, .nil => by rw [Ways.list]; exact .nil
  | _, _, .cons h1 h2 => by rw [Ways.list]; exact .cons ⟨rfl, h1⟩ h2.paired
theorem Ways.dep_le : ∀ {ws : Ways} {x : Nat × Way}, x ∈ ws.list → x.2.dep ≤ ws.dep
  | .nil, x, hx => by rw [Ways.list] at hx; cases hx
  | .cons n w r, x, hx => by
    rw [Ways.list] at hx
    rw [Ways.dep]
    rcases List.mem_cons.mp hx with rfl | hx
    · exact Nat.le_max_left _ _
    · exact Nat.le_trans (Ways.dep_le hx) (Nat.le_max_right _ _)
theorem Ways.ons_le : ∀ {ws : Ways} {x : Nat × Way}, x ∈ ws.list → x.2.ons ≤ ws.ons
  | .nil, x, hx => by rw [Ways.list] at hx; cases hx
  | .cons n w r, x, hx => by
    rw [Ways.list] at hx
    rw [Ways.ons]
    rcases List.mem_cons.mp hx with rfl | hx
    · exact Nat.le_max_left _ _
    · exact Nat.le_trans (Ways.ons_le hx) (Nat.le_max_right _ _)
theorem pair_len {α β : Type} {R : α → β → Prop} {xs : List α} {ys : List β} (h : Paired R xs ys) : xs.length = ys.length := by
  induction h with
  | nil => rfl
  | cons _ _ ih => rw [List.length_cons, List.length_cons, ih]
/-- parts are not empty -/
theorem parted_mem {h : House} {s : List Con} {c : Nat} {q : Nat × List Con} (hq : q ∈ partedC h s c) : q.1 < h.sizes.getD c 0 ∧ q.2 = sawC s c q.1 ∧ q.2 ≠ [] := by
  rw [parted_eq] at hq
  obtain ⟨v, hv, hq⟩ := List.mem_flatMap.mp hq
  unfold partV at hq
  split at hq
  · cases hq
  · rename_i hne
    rw [List.mem_singleton.mp hq]
    exact ⟨List.mem_range.mp hv, rfl, hne⟩
theorem saw_ok {h : House} {s : List Con} (g : SetG h s) {c v : Nat} (hne : sawC s c v ≠ []) : SetOk h (sawC s c v) := ⟨hne, (saw_g g c v).all, (saw_g g c v).nd⟩
theorem parted_has {h : House} {s : List Con} {c : Nat} {x : Con} (hc : c < h.sizes.length) (hx : x ∈ s) (ho : ConOk h.sizes x) : (x.getD c 0, sawC s c (x.getD c 0)) ∈ partedC h s c := by
  rw [parted_eq]
  have hz := ho.get (at_sz hc 0)
  refine List.mem_flatMap.mpr ⟨x.getD c 0, List.mem_range.mpr hz.2.1, ?_⟩
  have hm : x ∈ sawC s c (x.getD c 0) := List.mem_filter.mpr ⟨hx, by simp⟩
  unfold partV
  rw [if_neg (fun e => by rw [e] at hm; cases hm)]
  exact List.mem_singleton.mpr rfl
theorem parted_ne {h : House} {s : List Con} (o : SetOk h s) {c : Nat} (hc : c < h.sizes.length) : partedC h s c ≠ [] := by
  intro e
  cases hs : s with
  | nil => exact o.ne hs
  | cons x r =>
    have hm : x ∈ s := by rw [hs]; exact List.mem_cons_self
    have z := parted_has hc hm (o.all x hm)
    rw [e] at z
    cases z
theorem parted_len (h : House) (s : List Con) (c : Nat) : (partedC h s c).length ≤ h.sizes.getD c 0 := by
  unfold partedC
  exact Nat.le_trans (List.length_filterMap_le _ _) (by rw [List.length_range]; exact Nat.le_refl _)
/-- what goes on from a set is not empty -/
theorem map_ne {s : List Con} {f : Con → Con} (h : s ≠ []) : s.map f ≠ [] := by cases s with
  | nil => exact absurd rfl h
  | cons _ _ => exact fun z => nomatch z
theorem norm_ne {d : Nat} {s : List Con} (h : CSm d s) (hn : s ≠ []) : norm s ≠ [] := by
  intro e
  cases hs : s with
  | nil => exact hn hs
  | cons x r =>
    have z := (norm_mem h x).mpr (by rw [hs]; exact List.mem_cons_self)
    rw [e] at z
    cases z
theorem beh_ok {h : House} (ho : HouseOk h) {i : Item} (hi : ItemOk h i) {s : List Con} (o : SetOk h s) : SetOk h (behindC h i s) := by
  have g := beh_g ho hi o.g
  refine ⟨?_, g.all, g.nd⟩
  cases i with
  | deed k => exact norm_ne (csm_of ho (done_all ho hi o.all)) (map_ne o.ne)
  | perhaps k =>
    refine norm_ne (csm_of ho fun x hx => (List.mem_append.mp hx).elim (o.all x) (done_all ho hi o.all x)) ?_
    exact fun e => o.ne (List.append_eq_nil_iff.mp e).1
  | stir c =>
    refine norm_ne (csm_of ho (stir_all hi o.all)) fun e => ?_
    have hz := ho.sz _ (List.mem_of_getElem? (at_sz hi 0))
    cases hs : s with
    | nil => exact o.ne hs
    | cons x r =>
      have z : x.set c 0 ∈ stirC h c s := List.mem_flatMap.mpr ⟨x, by rw [hs]; exact List.mem_cons_self, List.mem_map.mpr ⟨0, List.mem_range.mpr (by omega), rfl⟩⟩
      rw [show stirC h c s = [] from e] at z
      cases z
  | ask q => exact o.ne
  | rest => exact o.ne
theorem go_mem {h : House} {r : Route} {p : Nat} {s : List Con} {l : List (Nat × List Con)} (hg : goC h r p s = some l) : ∃ it ns, r[p]? = some (it, ns) ∧ blocked h s it = false ∧ l = ns.map fun n => (n, behindC h it s) := by
  unfold goC at hg
  split at hg
  · cases hg
  · rename_i it ns hr
    split at hg
    · cases hg
    · rename_i hb
      exact ⟨it, ns, hr, by simpa using hb, (Option.some.inj hg).symm⟩
end K22
/-! KG: Walk, dearest. -/
namespace K22
open PySem PySem.Spec L2 LamX
abbrev s_Walk___init__ : Stmt := inClass (topS 21) 0
theorem sc_Walk___init__ : FnScope ["self", "house", "route"] ["self", "house", "route"] (defScope s_Walk___init__) := ⟨rfl, rfl, rfl, by decide +kernel, rfl, by decide +kernel, by decide +kernel⟩
abbrev s_Walk_most_paid : Stmt := inClass (topS 21) 4
theorem sc_Walk_most_paid : FnScope ["self", "prices", "spot", "some", "way", "found", "shown", "left", "pair", "paid", "events", "later"] ["self", "prices", "spot", "some", "way"] (defScope s_Walk_most_paid) := ⟨rfl, rfl, rfl, by decide +kernel, rfl, by decide +kernel, by decide +kernel⟩
abbrev s_dearest : Stmt := topS 22
theorem sc_dearest : FnScope ["house", "prices", "route", "place", "some", "rounds", "way", "paid", "events"] ["house", "prices", "route", "place", "some", "rounds", "way"] (defScope s_dearest) := ⟨rfl, rfl, rfl, by decide +kernel, rfl, by decide +kernel, by decide +kernel⟩
/-- the lambda of most_paid -/
def lamOf : Stmt → Expr
  | .Return (some (.Call _ _ (k :: _) _)) _ => k.value
  | _ => .Constant .none 0 ⟨0, 0, 0, 0⟩
structure FunL (K : PySem.W.Frag) (x qual : Str) (st : Stmt) (f : Addr) (fd : FuncData) (c : Addr) : Prop where
  ex : ∃ (oc : Value) (od : Option Addr) (kV doc pm : Value) (an : Option Addr) (ct : Value) (osl : Array (Option Value)),
    fd = PySem.W.fnOf x qual (defArgs st) (defBody st) (defScope st) .none kV doc pm an (.ref c) ct ∧ K.lookup f = some ⟨oc, od, .func fd, osl⟩ ∧ PySem.W.codeIn K (.ref c) qual = true
  kp : PySem.W.keepIn K (.ref f) = true
theorem FunL.ok {P : Program} {w : World} {K : PySem.W.Frag} {mg : Str → Option Value} {base : Heap} {x qual : Str} {st : Stmt} {f c : Addr} {fd : FuncData} {N ps : List Str} {k : Nat} {sp : Sp} (F : FunL K x qual st f fd c) (S : FnScope N ps (defScope st)) (len : ∀ vs H Q E, sp vs H Q E → vs.length = ps.length)
    (hbody : ∀ (A : Around) (outer : List Env) (s : Shared) (H : Hp) (vs : List V) (Q : VK) (E : XK), Room k (A.deeper (PyProof.Rows.envOfC qual (defScope st) s.heap.objs.size f (.ref c))) → sp vs H Q E →
      ∃ t, PSs (cxOf CX0 P w K mg base N qual (defScope st) f (.ref c) A outer s H E).nox (defBody st) t ∧ t { nx := fun _ H' => Q .non H', rt := Q } (L2.start N vs) H) : FnOk P w K mg base CX0 (k + 1) f fd ps sp := by
  obtain ⟨oc, od, kV, doc, pm, an, ct, osl, rfl, lk, hcd⟩ := F.ex
  refine fn_of lk hcd S len fun A outer s H vs Q E hr hsp => ?_
  obtain ⟨t, h, q⟩ := hbody A outer s H vs Q E hr hsp
  exact ⟨t, h.nox, q⟩
structure WalkC (K : PySem.W.Frag) (mg : Str → Option Value) (C fI fM : Addr) (fdI fdM : FuncData) : Prop where
  cl : Cls K C
  nG : NoAttr K C "ground"
  nR : NoAttr K C "road"
  mgC : mg "Walk" = some (.ref C)
  mM : Meth K C "most_paid" fM
  made : Mk K C fI
  bI : Binds K fdI ["self", "house", "route"] []
  bM : Binds K fdM ["self", "prices", "spot", "some", "way"] []
/-- the instance at a walks the route in the house -/
def IsWalk (H : Hp) (a C : Addr) (h : House) (r : Route) : Prop := ∃ dx fs vg vr, H a = some (.ins C dx fs) ∧ fs.lookup ("ground" : Str) = some vg ∧ fs.lookup ("road" : Str) = some vr ∧ fs.lookup ("most_paid" : Str) = none ∧ Dt H vg (encH h) ∧ Dt H vr (encR r)
theorem IsWalk.mono {T : List (Addr × Str)} {H H' : Hp} {a C : Addr} {h : House} {r : Route} (w : IsWalk H a C h r) (e : Ex T none H H') : IsWalk H' a C h r := by
  obtain ⟨dx, fs, vg, vr, h1, h2, h3, h4, h5, h6⟩ := w
  exact ⟨dx, fs, vg, vr, e.keep _ _ NP.none (fun _ z => nomatch z) h1, h2, h3, h4, h5.mono e.tup, h6.mono e.tup⟩
abbrev encE (e : Nat × List UE) : PyData := .tuple [dN e.1, encUEs e.2]
theorem evs_len (r : Route) (cs : List Nat) : ∀ (n : Nat) (w : Way) (p : Nat), w.dep ≤ n → ∀ e ∈ evsOf r cs p w, e.2.length ≤ 2 * n
  | 0, w, p, hd, e, he => by cases w <;> rw [Way.dep] at hd <;> omega
  | n + 1, .fin, p, hd, e, he => by
    rw [evsOf] at he
    rw [List.mem_singleton.mp he]
    exact Nat.zero_le _
  | n + 1, .look c ws, p, hd, e, he => by
    rw [Way.dep] at hd
    rw [evsOf, evsLook_flat] at he
    obtain ⟨l, hl, he⟩ := List.mem_flatten.mp he
    obtain ⟨q, hq, rfl⟩ := List.mem_map.mp hl
    obtain ⟨x, hx, rfl⟩ := List.mem_map.mp he
    have := evs_len r cs n q.2 p (Nat.le_trans (Ways.dep_le hq) (by omega)) x hx
    rw [List.length_cons]
    omega
  | n + 1, .on ws, p, hd, e, he => by
    rw [Way.dep] at hd
    rw [evsOf, evsOn_flat] at he
    obtain ⟨l, hl, he⟩ := List.mem_flatten.mp he
    obtain ⟨q, hq, rfl⟩ := List.mem_map.mp hl
    obtain ⟨x, hx, rfl⟩ := List.mem_map.mp he
    have := evs_len r cs n q.2 q.1 (Nat.le_trans (Ways.dep_le hq) (by omega)) x hx
    rw [List.length_cons, List.length_cons]
    omega
section
variable {T : List (Addr × Str)} {po : Option PenD} {Hb : Hp} {gs : List (V × AV)} {env : List AV} {H : Hp} {σ : L2.St} {K : PySem.W.Frag} {te : TE} {D : Ends} {i j k : Nat}
/-- x, y = a pair told so far -/
theorem st_set2X {Pd : PyData → PyData → Prop} (F : Fr T po Hb gs env H σ) (h : Ev T po Hb gs env te fun d => ∃ x y, d = .tuple [x, y] ∧ Pd x y) (q : ∀ v w x y H', Ex T po H H' → Fr T po Hb gs ((env.set i (.d x)).set j (.d y)) H' ((σ.set i (some v)).set j (some w)) → Pd x y → D.nx ((σ.set i (some v)).set j (some w)) H') :
    tAsg te (gTup K 2 (gCons (gName i) (gCons (gName j) gNil))) D σ H :=
  h σ H F _ fun v d H' e F' r ⟨x, y, ed, p⟩ => by
    subst ed
    exact gN2 F' r fun v w F2 => q v w x y H' e F2 p
/-- (x, y), z -/
theorem gNN {x y z : PyData} {v : V} {Q : L2.St → Hp → Prop} (F : Fr T po Hb gs env H σ) (r : Dt H v (.tuple [.tuple [x, y], z])) (q : ∀ v1 v2 v3, Fr T po Hb gs (((env.set i (.d x)).set j (.d y)).set k (.d z)) H (((σ.set i (some v1)).set j (some v2)).set k (some v3)) → Q (((σ.set i (some v1)).set j (some v2)).set k (some v3)) H) :
    gTup K 2 (gCons (gTup K 2 (gCons (gName i) (gCons (gName j) gNil))) (gCons (gName k) gNil)) v σ H Q := by
  obtain ⟨a, xs, rfl, h1, h2⟩ := r.t
  cases h2 with
  | cons r1 h2 =>
    cases h2 with
    | cons r2 h2 =>
      cases h2
      refine ⟨a, _, rfl, SqT.of h1, rfl, _, _, rfl, ?_⟩
      exact gN2 F r1 fun v1 v2 F2 => ⟨_, _, rfl, rfl, q v1 v2 _ (F2.setD r2)⟩
theorem ev_ground {mg : Str → Option Value} {C fI fM a : Addr} {fdI fdM : FuncData} {h : House} {r : Route} (Wc : WalkC K mg C fI fM fdI fdM) (hW : IsWalk Hb a C h r) (h0 : env[i]? = some (.r (.ref a))) : EvD T none Hb gs env (tFld K (tVar i) "ground") (encH h) := fun σ H F Q q => by
  obtain ⟨dx, fs, vg, vr, h1, h2, h3, h4, h5, h6⟩ := hW.mono F.ext
  exact ⟨.ref a, F.rf h0, a, C, dx, fs, vg, rfl, h1, Wc.cl, Wc.nG, h2, q vg H (Ex.refl H) F h5⟩
theorem ev_road {mg : Str → Option Value} {C fI fM a : Addr} {fdI fdM : FuncData} {h : House} {r : Route} (Wc : WalkC K mg C fI fM fdI fdM) (hW : IsWalk Hb a C h r) (h0 : env[i]? = some (.r (.ref a))) : EvD T none Hb gs env (tFld K (tVar i) "road") (encR r) := fun σ H F Q q => by
  obtain ⟨dx, fs, vg, vr, h1, h2, h3, h4, h5, h6⟩ := hW.mono F.ext
  exact ⟨.ref a, F.rf h0, a, C, dx, fs, vr, rfl, h1, Wc.cl, Wc.nR, h3, q vr H (Ex.refl H) F h6⟩
theorem ev_parts {E : XK} {th ts tc : TE} {h : House} {s : List Con} {c : Nat} (h1 : EvD T po Hb gs env th (encH h)) (h2 : EvD T po Hb gs env ts (encS s)) (h3 : EvD T po Hb gs env tc (dN c)) (ho : HouseOk h) (hs : SetG h s) (hc : c < h.sizes.length) :
    EvD T po Hb gs env (tCall (spParts T) [] E (tCons th (tCons ts (tCons tc tNil)))) (.tuple ((partedC h s c).map encPart)) :=
  Ev.one (ev_c (args := fun a : House × List Con × Nat => [.d (encH a.1), .d (encS a.2.1), .d (dN a.2.2)]) (h, s, c) (ea_c h1 (ea_c h2 (ea_c h3 ea_nil))) ⟨ho, hs, hc⟩)
theorem ev_goon {E : XK} {th tr tp ts : TE} {h : House} {r : Route} {p : Nat} {s : List Con} (h1 : EvD T po Hb gs env th (encH h)) (h2 : EvD T po Hb gs env tr (encR r)) (h3 : EvD T po Hb gs env tp (dN p)) (h4 : EvD T po Hb gs env ts (encS s)) (ho : HouseOk h) (hr : RouteOk h r) (hp : p < r.length) (hs : SetOk h s) :
    EvD T po Hb gs env (tCall (spGo T) [] E (tCons th (tCons tr (tCons tp (tCons ts tNil))))) (encGo (goC h r p s)) :=
  Ev.one (ev_c (args := fun a : House × Route × Nat × List Con => [.d (encH a.1), .d (encR a.2.1), .d (dN a.2.2.1), .d (encS a.2.2.2)]) (h, r, p, s) (ea_c h1 (ea_c h2 (ea_c h3 (ea_c h4 ea_nil)))) ⟨ho, hr, hp, hs⟩)
/-- most_paid's promise: way of at most n levels -/
def spMost (T : List (Addr × Str)) (C : Addr) (n : Nat) : Sp := fun vs H Q _ => ∃ (a : Addr) (h : House) (r : Route) (cs : List Nat) (p : Nat) (s : List Con) (w : Way), Args none H vs [.r (.ref a), .d (dNs cs), .d (dN p), .d (encS s), .d (encW w)] ∧ IsWalk H a C h r ∧ HouseOk h ∧ RouteOk h r ∧ cs.length = 3 ∧ p < r.length ∧ SetOk h s ∧ WayOk h r p s w ∧ w.dep ≤ n ∧ Tabs T H ∧
  ∀ v H' e, Ex T none H H' → Best (evsOf r cs p w) e → Dt H' v (encE e) → Q v H'
theorem ev_most {C a : Addr} {E : XK} {tp ts tw tc : TE} {n p : Nat} {h : House} {r : Route} {cs : List Nat} {s : List Con} {w : Way} (hW : IsWalk Hb a C h r) (hT : Tabs T Hb) (h0 : env[i]? = some (.r (.ref a))) (h1 : EvD T none Hb gs env tc (dNs cs)) (h2 : EvD T none Hb gs env tp (dN p)) (h3 : EvD T none Hb gs env ts (encS s)) (h4 : EvD T none Hb gs env tw (encW w))
    (ho : HouseOk h) (hr : RouteOk h r) (hcs : cs.length = 3) (hp : p < r.length) (hs : SetOk h s) (hw : WayOk h r p s w) (hd : w.dep ≤ n) :
    Ev T none Hb gs env (tMeth C "most_paid" (spMost T C n) [] E (tVar i) (tCons tc (tCons tp (tCons ts (tCons tw tNil))))) (fun d => ∃ x y, d = .tuple [x, y] ∧ ∃ e, Best (evsOf r cs p w) e ∧ x = dN e.1 ∧ y = encUEs e.2) := fun σ H F Q q => by
  obtain ⟨dx, fs, vg, vr, k1, k2, k3, k4, k5, k6⟩ := hW.mono F.ext
  refine ⟨.ref a, F.rf h0, a, dx, fs, rfl, k1, k4, (ea_c h1 (ea_c h2 (ea_c h3 (ea_c h4 ea_nil)))) σ H F _ fun vs xs H1 e1 F1 r1 p1 => ?_⟩
  subst p1
  rw [List.append_nil]
  refine ⟨a, h, r, cs, p, s, w, .cons (x := .r (.ref a)) rfl (fun _ z => nomatch z) r1, hW.mono F1.ext, ho, hr, hcs, hp, hs, hw, hd, F1.ext.tab hT, fun v H' e e2 b r2 => ?_⟩
  exact q v _ H' (e1.trans e2) (F1.mono e2) r2 ⟨_, _, rfl, e, b, rfl, rfl⟩
end
section
variable {P : Program} {w : World} {K : PySem.W.Frag} {mg : Str → Option Value} {base : Heap} {T : List (Addr × Str)}
theorem dep_pos : ∀ w : Way, 1 ≤ w.dep
  | .fin => by rw [Way.dep]; exact Nat.le_refl _
  | .look _ _ => by rw [Way.dep]; exact Nat.succ_le_succ (Nat.zero_le _)
  | .on _ => by rw [Way.dep]; exact Nat.succ_le_succ (Nat.zero_le _)
theorem sv_zip {α β : Type} {R : α → β → Prop} {f : α → PyData} {g : β → PyData} : ∀ {xs : List α} {ys : List β}, Paired R xs ys → ∀ (n : Nat) (d : PyData), (pairs (xs.map f) (ys.map g))[n]? = some d → ∃ x y, xs[n]? = some x ∧ ys[n]? = some y ∧ d = .tuple [f x, g y] ∧ R x y
  | _, _, .nil, n, d, h => by simp [pairs] at h
  | x :: xs, y :: ys, .cons r t, 0, d, h => by
    simp [pairs] at h
    exact ⟨x, y, rfl, rfl, h.symm, r⟩
  | x :: xs, y :: ys, .cons r t, n + 1, d, h => by
    obtain ⟨a, b, h1, h2, h3, h4⟩ := sv_zip t n d (by simpa [pairs] using h)
    exact ⟨a, b, by simpa using h1, by simpa using h2, h3, h4⟩
theorem pair_maps {α β γ : Type} {R : γ → β → Prop} {f : α → γ} : ∀ {xs : List α} {ys : List β}, Paired R (xs.map f) ys → Paired (fun x y => R (f x) y) xs ys
  | [], _, h => by cases h; exact .nil
  | x :: xs, _, h => by
    rw [List.map_cons] at h
    cases h with
    | cons h1 h2 => exact .cons h1 (pair_maps h2)
theorem max_ret {D : Ends} {Hb : Hp} {gs : List (V × AV)} {env : List AV} {H : Hp} {σ : L2.St} {i : Nat} {es : List (Nat × List UE)} {ls : List (List (Nat × List UE))} (F : Fr T none Hb gs env H σ) (hi : env[i]? = some (.l (es.map encE))) (hne : 0 < es.length) (hT : Tabs T Hb) (hb : Bests ls es)
    (q : ∀ v H' e, Ex T none Hb H' → Best ls.flatten e → Dt H' v (encE e) → D.rt v H') : tRet (tMaxK T Hb (tCons (tVar i) tNil)) D σ H := by
  obtain ⟨a, vs, h1, h0, h2, h3⟩ := F.lst hi
  have hl : vs.length = es.length := by rw [h3.len, List.length_map]
  have at_ : ∀ (j : Nat) (x : V), vs[j]? = some x → ∃ e, es[j]? = some e ∧ Dt H x (encE e) := fun j x hx => by
    obtain ⟨d, hd, rd⟩ := h3.get' hx
    rw [List.getElem?_map] at hd
    obtain ⟨e, he, rfl⟩ := Option.map_eq_some_iff.mp hd
    exact ⟨e, he, rd⟩
  refine ⟨.ref a, h1, a, vs, fun j => ((es.getD j (0, [])).1 : Int), rfl, h2, by rw [hl]; exact hne, F.ext.tab hT, fun j x hx => ?_, fun H2 j x eN htb T2 hx hmax => ?_⟩
  · obtain ⟨e, he, rd⟩ := at_ j x hx
    obtain ⟨t, xs, rfl, g1, g2⟩ := rd.t
    cases g2 with
    | cons r1 g2 =>
      refine ⟨t, _, rfl, g1, ?_⟩
      dsimp only
      rw [r1.i, getD_of he]
      rfl
  · obtain ⟨e, he, rd⟩ := at_ j x hx
    have tk : Tk H H2 := .of fun b u hu z => eN b _ z (fun ps y => by subst y; exact hu)
    have ex : Ex T none Hb H2 := by
      refine ⟨fun b o n1 n2 z => eN b o (F.ext.keep b o n1 n2 z) n2, F.ext.tup.trans tk, fun _ z => (nomatch z), fun b z => ?_, fun _ => T2⟩
      cases hb0 : Hb b with
      | none => rfl
      | some o =>
        by_cases ht : ∃ ps, o = .tbl ps
        · obtain ⟨ps, rfl⟩ := ht
          obtain ⟨qs, hq⟩ := htb b ps hb0
          rw [z] at hq
          cases hq
        · have hk := eN b o (F.ext.keep b o NP.none (fun ps e => ht ⟨ps, e⟩) hb0) (fun ps e => ht ⟨ps, e⟩)
          rw [z] at hk
          cases hk
    have hm : e ∈ es := List.mem_of_getElem? he
    refine q x H2 e ex (hb.best hm fun e' he' => ?_) (rd.mono tk)
    obtain ⟨j', hj'⟩ := List.mem_iff_getElem?.mp he'
    have z := hmax j' (by rw [hl]; exact (List.getElem?_eq_some_iff.mp hj').1)
    dsimp only at z
    rw [getD_of he, getD_of hj'] at z
    omega
theorem lamOne : LamOne "one" { kind := .function, names := [(Str.ofString "one", .local)], isGenerator := false, isCoroutine := false, more := [] } := ⟨rfl, rfl, rfl, rfl, by decide +kernel⟩
theorem ok_most (B : Bi mg) {C fI fM c Pt : Addr} {fdI fdM : FuncData} (Wc : WalkC K mg C fI fM fdI fdM) (FM : FunL K "most_paid" "Walk.most_paid" s_Walk_most_paid fM fdM c) (TB : TabB base mg c Pt) (hmT : (Pt, ("Walk.most_paid" : Str) ++ ".<locals>." ++ "<lambda>") ∈ T) (huT : ∀ p ∈ T, p.1 = Pt → p.2 = ("Walk.most_paid" : Str) ++ ".<locals>." ++ "<lambda>")
    (C1 : Cal P w K mg base "seen_parts" s_seen_parts ["house", "some", "cell"] 1 (spParts T)) (C2 : Cal P w K mg base "go_on" s_go_on ["house", "route", "place", "some"] 11 (spGo T)) : ∀ n, n ≤ 1000 → FnOk P w K mg base CX0 (12 + n) fM fdM ["self", "prices", "spot", "some", "way"] (spMost T C n) := by
  obtain ⟨fa, fda, D_seen_parts, G_seen_parts⟩ := C1
  obtain ⟨fb, fdb, D_go_on, G_go_on⟩ := C2
  have lamBind : ∀ (q : Str) (cl : List (Str × Addr)) (pm cv ctv v : Value), bindArgs (PySem.W.kla_fn "<lambda>" q { posonlyargs := [], args := [{ arg := "one", annotation := none, pos := ⟨125, 37, 125, 40⟩ }], vararg := none, kwonlyargs := [], kw_defaults := [], kwarg := none, defaults := [] } (.Subscript (.Name "one" ⟨125, 42, 125, 45⟩) (.Constant (.int 0) 0 ⟨125, 46, 125, 47⟩) ⟨125, 42, 125, 48⟩) { kind := .function, names := [(Str.ofString "one", .local)], isGenerator := false, isCoroutine := false, more := [] } cl pm cv ctv) ⟨[v], []⟩ = pure [(Str.ofString "one", v)] := fun _ _ _ _ _ _ => rfl
  intro n
  induction n with
  | zero =>
    intro _
    refine FM.ok (k := 11) sc_Walk_most_paid (fun vs H Q E h => ?_) (fun A outer s H vs Q E hr h => ?_)
    · obtain ⟨a, h, r, cs, p, s, w, ha, _⟩ := h
      exact ha.len
    · obtain ⟨a, h, r, cs, p, s, w, ha, _, _, _, _, _, _, _, hd, _⟩ := h
      have := dep_pos w
      omega
  | succ n IH0 =>
    intro hn1
    have IH := IH0 (by omega)
    refine FM.ok (k := 12 + n) sc_Walk_most_paid (fun vs H Q E h => ?_) (fun A outer s H vs Q E hr h => ?_)
    · obtain ⟨a, h, r, cs, p, s, w, ha, _⟩ := h
      exact ha.len
    · obtain ⟨a, h, r, cs, p, ss, wy, ha, hW, ho, hro, hcs, hp, hs, hw, hd, hT, k⟩ := h
      have F0 : Fr T none H [] [.r (.ref a), .d (dNs cs), .d (dN p), .d (encS ss), .d (encW wy), .u, .u, .u, .u, .u, .u, .u] H (L2.start ["self", "prices", "spot", "some", "way", "found", "shown", "left", "pair", "paid", "events", "later"] vs) := Fr.start (N := ["self", "prices", "spot", "some", "way", "found", "shown", "left", "pair", "paid", "events", "later"]) (po := none) (fun _ z => nomatch z) ha (by rw [ha.len]; exact Nat.le_of_ble_eq_true rfl)
      refine ⟨_, (pss_cons (ps_if (pt_cmpR op_eq (pe_ix ix_tup (pv 4) pe_int (fun _ _ => rfl)) pe_str (nomark _)) (pss_one (ps_ret (pe_tup (pa_cons pe_int (pa_cons (pe_tup pa_nil) pa_nil))))) pss_nil)
      (pss_cons (ps_set (i := 5) sc_Walk_most_paid.nd rfl (Or.inl rfl) (pe_lst pa_nil))
      (pss_cons (ps_if (pt_cmpR op_eq (pe_ix ix_tup (pv 4) pe_int (fun _ _ => rfl)) pe_str (nomark _)) (pss_one (ps_for PassesOwn.never rfl (pi_zipS (by rfl) B.zip (pa_cons (pe_call G_seen_parts (hr.mono (by omega)) (by rfl) D_seen_parts.m D_seen_parts.F.kp D_seen_parts.b .nil pass0 (pa_cons (pe_fld (pv 0) rfl) (pa_cons (pv 3) (pa_cons (pe_ix ix_tup (pv 4) pe_int (fun _ _ => rfl)) pa_nil)))) (pa_cons (pe_ix ix_tup (pv 4) pe_int (fun _ _ => rfl)) pa_nil))) (pg_tup (by rfl) (pgs_cons (pg_tup (by rfl) (pgs_cons (pg_name (i := 6) sc_Walk_most_paid.nd rfl (Or.inl rfl)) (pgs_cons (pg_name (i := 7) sc_Walk_most_paid.nd rfl (Or.inl rfl)) pgs_nil))) (pgs_cons (pg_name (i := 8) sc_Walk_most_paid.nd rfl (Or.inl rfl)) pgs_nil))) (pss_cons (ps_asg (pe_meth (pv 0) Wc.cl Wc.mM IH (hr.mono (by omega)) Wc.bM .nil pass0 (pa_cons (pv 1) (pa_cons (pv 2) (pa_cons (pv 7) (pa_cons (pe_ix ix_tup (pv 8) pe_int (fun _ _ => rfl)) pa_nil))))) (pg_tup (by rfl) (pgs_cons (pg_name (i := 9) sc_Walk_most_paid.nd rfl (Or.inl rfl)) (pgs_cons (pg_name (i := 10) sc_Walk_most_paid.nd rfl (Or.inl rfl)) pgs_nil))))
      (pss_one (ps_expr (pe_bm PySem.F.plainAttrs_list PySem.F.slot_list_append PySem.F.type_list_append mt_append (pv 5) (pa_cons (pe_tup (pa_cons (pe_op op_add (pv 9) (pe_ix ix_tup (pv 1) (pe_ix ix_tup (pv 4) pe_int (fun _ _ => rfl)) (fun _ _ => rfl))) (pa_cons (pe_op op_catA (pe_tup (pa_cons (pe_tup (pa_cons pe_str (pa_cons (pe_ix ix_tup (pv 4) pe_int (fun _ _ => rfl)) (pa_cons (pv 6) pa_nil)))) pa_nil)) (pv 10)) pa_nil))) pa_nil))))))) (pss_one (ps_for PassesOwn.never rfl (pi_zipS (by rfl) B.zip (pa_cons (pe_call G_go_on (hr.mono (by omega)) (by rfl) D_go_on.m D_go_on.F.kp D_go_on.b .nil pass0 (pa_cons (pe_fld (pv 0) rfl) (pa_cons (pe_fld (pv 0) rfl) (pa_cons (pv 2) (pa_cons (pv 3) pa_nil))))) (pa_cons (pe_ix ix_tup (pv 4) pe_int (fun _ _ => rfl)) pa_nil))) (pg_tup (by rfl) (pgs_cons (pg_tup (by rfl) (pgs_cons (pg_name (i := 11) sc_Walk_most_paid.nd rfl (Or.inl rfl)) (pgs_cons (pg_name (i := 7) sc_Walk_most_paid.nd rfl (Or.inl rfl)) pgs_nil))) (pgs_cons (pg_name (i := 8) sc_Walk_most_paid.nd rfl (Or.inl rfl)) pgs_nil))) (pss_cons (ps_asg (pe_meth (pv 0) Wc.cl Wc.mM IH (hr.mono (by omega)) Wc.bM .nil pass0 (pa_cons (pv 1) (pa_cons (pv 11) (pa_cons (pv 7) (pa_cons (pe_ix ix_tup (pv 8) pe_int (fun _ _ => rfl)) pa_nil))))) (pg_tup (by rfl) (pgs_cons (pg_name (i := 9) sc_Walk_most_paid.nd rfl (Or.inl rfl)) (pgs_cons (pg_name (i := 10) sc_Walk_most_paid.nd rfl (Or.inl rfl)) pgs_nil))))
      (pss_one (ps_expr (pe_bm PySem.F.plainAttrs_list PySem.F.slot_list_append PySem.F.type_list_append mt_append (pv 5) (pa_cons (pe_tup (pa_cons (pv 9) (pa_cons (pe_op op_catA (pe_tup (pa_cons (pe_ix ix_tup (pe_ix ix_tup (pe_fld (pv 0) rfl) (pv 2) (fun _ _ => rfl)) pe_int (fun _ _ => rfl)) (pa_cons (pe_tup (pa_cons pe_str (pa_cons (pv 11) pa_nil))) pa_nil))) (pv 10)) pa_nil))) pa_nil))))))))
      (pss_one (ps_ret (pe_maxKey (T := T) (by rfl) B.max (pa_cons (pv 5) pa_nil) (hr.mono (by omega)) hr.hd lamOne TB rfl hmT huT rfl lamBind)))))), ?_⟩
      have sm : ∀ {x : PyData} {xs ys : List PyData}, xs.length ≤ 2 → ys.length ≤ 2 * (n + 1) → n ≤ 1000 → xs.length + ys.length ≤ 16777216 := fun h1 h2 h3 => by omega
      have big : ∀ (k : Nat), k ≤ 1000 → k < 16777216 := fun k hk => by omega
      cases wy with
      | fin =>
        refine sq (st_yes F0 (et (ev_eqStrB (b := true) (ev_ix (ds := [.str "end"]) (ev_v rfl) ev_i rfl) ev_s (by decide +kernel))) fun H1 e1 F1 => ?_)
        refine st_ret F1 (ev_tup (eu_c ev_i (eu_c (ev_tup eu_nil) eu_nil)) (Nat.le_of_ble_eq_true rfl)).ev fun v d H4 e4 r4 p4 => k v H4 (0, []) e4 ?_ (by subst p4; exact r4)
        rw [evsOf]
        exact ⟨List.mem_singleton.mpr rfl, fun e he => by rw [List.mem_singleton.mp he]; exact Nat.le_refl _⟩
      | look c ws =>
        have hsame := hw
        obtain ⟨hc, hws⟩ : c < h.sizes.length ∧ WaysOk h r ((partedC h ss c).map fun q => (q.1, p, q.2)) ws := by cases hw with | look h1 h2 => exact ⟨h1, h2⟩
        rw [Way.dep] at hd
        have hpr := pair_maps hws.paired
        have hlen : (partedC h ss c).length = ws.list.length := pair_len hpr
        have hcc : cs[c]? = some (cs.getD c 0) := at_sz (by rw [hcs]; exact Nat.lt_of_lt_of_le hc ho.s3) 0
        have hz4 := ho.sz _ (List.mem_of_getElem? (at_sz hc 0))
        have hpl := parted_len h ss c
        have wy1 : ∀ {gs : List (V × AV)} {env : List AV}, env[4]? = some (.d (encW (.look c ws))) → EvD T none H gs env (tOp (rIxT K) (tVar 4) (tC (.int 1))) (dN c) := fun h => ev_ix (ds := [.str "look", dN c, .dict (encWs ws)]) (ev_v (i := 4) (h.trans (by rw [encW]))) ev_i rfl
        refine sq (st_no F0 (et (ev_eqStrB (b := false) (ev_ix (ds := [.str "look", dN c, .dict (encWs ws)]) (ev_v (i := 4) (by rw [encW]; rfl)) ev_i rfl) ev_s (by decide +kernel))) fun H1 e1 F1 => ?_)
        refine sq (st_setL F1 (el_lst eu_nil (fun ds e => by rw [e]; decide)) fun a0 ds0 H2 e2 F2 n2 p2 => ?_)
        subst p2
        dsimp only
        refine sq (st_yes F2 (et (ev_eqStrB (b := true) (ev_ix (ds := [.str "look", dN c, .dict (encWs ws)]) (ev_v (i := 4) (by rw [encW]; rfl)) ev_i rfl) ev_s (by decide +kernel))) fun H3 e3 F3 => ?_)
        refine st_forI (fun ds m env' => ∃ x6 x7 x8 x9 x10 x11 es, env' = [.r (.ref a), .d (dNs cs), .d (dN p), .d (encS ss), .d (encW (.look c ws)), .l (es.map encE), x6, x7, x8, x9, x10, x11] ∧ Bests ((ws.list.map fun q => (evsOf r cs p q.2).map fun e => (e.1 + cs.getD c 0, UE.saw c q.1 :: e.2)).take m) es) F3
          (ei_zipQ (kvs := ws.list.map fun q => (dN q.1, encW q.2)) (ev_parts (ev_ground Wc hW rfl) (ev_v rfl) (wy1 rfl) ho hs.g hc) (ev_ix (ds := [.str "look", dN c, .dict (encWs ws)]) (ev_v (i := 4) (by rw [encW]; rfl)) ev_i (by rw [← encWs_list]; rfl)) (by rw [List.length_map, List.length_map]; exact hlen)) (fun ds e => ⟨_, _, _, _, _, _, [], rfl, .nil⟩) (fun gs' ds m d v env' σ' H' e hd' F' hI hv => ?_) (fun ds env' σ' H' e F' hI => ?_)
        · obtain ⟨x6, x7, x8, x9, x10, x11, es, rfl, hbs⟩ := hI
          subst e
          obtain ⟨q, x, hq, hx, rfl, hqx, hwx⟩ := sv_zip (f := encPart) (g := fun q : Nat × Way => .tuple [dN q.1, encW q.2]) hpr m d (by rw [List.map_map] at hd'; exact hd')
          have hxm := List.mem_of_getElem? hx
          obtain ⟨_, hq2, hq3⟩ := parted_mem (List.mem_of_getElem? hq)
          have hdx : x.2.dep ≤ n := Nat.le_trans (Ways.dep_le hxm) (by omega)
          have hel := hbs.len
          rw [List.length_take, List.length_map] at hel
          refine gNN F' hv fun v1 v2 v3 F4 => ?_
          refine sq (st_set2X F4 (ev_most (h := h) (r := r) (cs := cs) (p := p) (s := q.2) (w := x.2) hW hT rfl (ev_v rfl) (ev_v rfl) (ev_v rfl) (ev_ix (ds := [dN x.1, encW x.2]) (ev_v rfl) ev_i rfl) ho hro hcs hp (hq2 ▸ saw_ok hs.g (hq2 ▸ hq3)) hwx hdx) fun v4 v5 y1 y2 H5 e5 F5 ⟨e, hbe, ey1, ey2⟩ => ?_)
          subst ey1
          subst ey2
          dsimp only
          have hle := evs_len r cs n x.2 p hdx e hbe.1
          refine st_app F5 rfl (by rw [List.length_map]; omega) (ev_tup (eu_c (ev_add (ev_v rfl) (ev_ix (ev_v rfl) (wy1 rfl) (at_N hcc))) (eu_c (ev_cat (xs := [.tuple [.str "saw", dN c, dN q.1]]) (ev_tup (eu_c (ev_tup (eu_c ev_s (eu_c (wy1 rfl) (eu_c (ev_v rfl) eu_nil))) (Nat.le_of_ble_eq_true rfl)) eu_nil) (Nat.le_of_ble_eq_true rfl)) (ev_v rfl) (by rw [List.length_map, List.length_singleton]; omega)) eu_nil)) (Nat.le_of_ble_eq_true rfl)).ev fun d6 H6 F6 tk p6 => ?_
          subst p6
          have en : encE (e.1 + cs.getD c 0, UE.saw c x.1 :: e.2) = .tuple [.int ((e.1 : Int) + (cs.getD c 0 : Int)), .tuple ([.tuple [.str "saw", dN c, dN q.1]] ++ e.2.map encUE)] := by rw [hqx]; rfl
          have F6' : Fr T none H gs' [.r (.ref a), .d (dNs cs), .d (dN p), .d (encS ss), .d (encW (.look c ws)), .l (es.map encE ++ [encE (e.1 + cs.getD c 0, UE.saw c x.1 :: e.2)]), _, _, _, _, _, _] H6 _ := en ▸ F6
          have em : es.map encE ++ [encE (e.1 + cs.getD c 0, UE.saw c x.1 :: e.2)] = (es ++ [(e.1 + cs.getD c 0, UE.saw c x.1 :: e.2)]).map encE := by rw [List.map_append]; rfl
          rw [em] at F6'
          refine ⟨_, F6', _, _, _, _, _, _, _, rfl, ?_⟩
          rw [take_snoc (x := (evsOf r cs p x.2).map fun e => (e.1 + cs.getD c 0, UE.saw c x.1 :: e.2)) (by rw [List.getElem?_map, hx]; rfl)]
          exact hbs.snoc (hbe.map _ fun l => UE.saw c x.1 :: l)
        · obtain ⟨x6, x7, x8, x9, x10, x11, es, rfl, hbs⟩ := hI
          subst e
          rw [pairs_len (by rw [List.length_map, List.length_map, List.length_map]; exact hlen), List.length_map, hlen, List.take_of_length_le (by rw [List.length_map]; exact Nat.le_refl _)] at hbs
          have hel := hbs.len
          rw [List.length_map] at hel
          have hne : 0 < es.length := by
            rw [hel, ← hlen]
            exact List.length_pos_iff.mpr (parted_ne hs hc)
          dsimp only
          refine max_ret F' rfl hne hT hbs fun v H4 e e4 b4 r4 => k v H4 e e4 ?_ r4
          rw [evsOf, evsLook_flat]
          exact b4
      | on ws =>
        obtain ⟨l, hgo, hws⟩ : ∃ l, goC h r p ss = some l ∧ WaysOk h r (l.map fun q => (q.1, q.1, q.2)) ws := by cases hw with | on h1 h2 => exact ⟨_, h1, h2⟩
        rw [Way.dep] at hd
        have hpr := pair_maps hws.paired
        have hlen : l.length = ws.list.length := pair_len hpr
        obtain ⟨it, ns, hrp, _, hl⟩ := go_mem hgo
        obtain ⟨hn0, hn3, _, hnn⟩ := hro.nexts p it ns hrp
        have hit : ItemOk h it := hro.items _ (List.mem_of_getElem? hrp)
        have hip : itemAt r p = it := by unfold itemAt; rw [getD_of hrp]
        have hll : l.length = ns.length := by rw [hl, List.length_map]
        have way : ∀ {gs : List (V × AV)} {env : List AV}, env[4]? = some (.d (encW (.on ws))) → EvD T none H gs env (tVar 4) (.tuple [.str "on", .dict (encWs ws)]) := fun h => ev_v (i := 4) (h.trans (by rw [encW]))
        refine sq (st_no F0 (et (ev_eqStrB (b := false) (ev_ix (way rfl) ev_i rfl) ev_s (by decide +kernel))) fun H1 e1 F1 => ?_)
        refine sq (st_setL F1 (el_lst eu_nil (fun ds e => by rw [e]; decide)) fun a0 ds0 H2 e2 F2 n2 p2 => ?_)
        subst p2
        dsimp only
        refine sq (st_no F2 (et (ev_eqStrB (b := false) (ev_ix (way rfl) ev_i rfl) ev_s (by decide +kernel))) fun H3 e3 F3 => ?_)
        refine st_forI (fun ds m env' => ∃ x6 x7 x8 x9 x10 x11 es, env' = [.r (.ref a), .d (dNs cs), .d (dN p), .d (encS ss), .d (encW (.on ws)), .l (es.map encE), x6, x7, x8, x9, x10, x11] ∧ Bests ((ws.list.map fun q => (evsOf r cs q.1 q.2).map fun e => (e.1, UE.item (itemAt r p) :: UE.to q.1 :: e.2)).take m) es) F3
          (ei_zipQ (xs := l.map encPart) (kvs := ws.list.map fun q => (dN q.1, encW q.2)) ((ev_goon (ev_ground Wc hW rfl) (ev_road Wc hW rfl) (ev_v rfl) (ev_v rfl) ho hro hp hs).to (by rw [hgo]; rfl)) (ev_ix (way rfl) ev_i (by rw [← encWs_list]; rfl)) (by rw [List.length_map, List.length_map]; exact hlen)) (fun ds e => ⟨_, _, _, _, _, _, [], rfl, .nil⟩) (fun gs' ds m d v env' σ' H' e hd' F' hI hv => ?_) (fun ds env' σ' H' e F' hI => ?_)
        · obtain ⟨x6, x7, x8, x9, x10, x11, es, rfl, hbs⟩ := hI
          subst e
          obtain ⟨q, x, hq, hx, rfl, hqx, hwx⟩ := sv_zip (f := encPart) (g := fun q : Nat × Way => .tuple [dN q.1, encW q.2]) hpr m d (by rw [List.map_map] at hd'; exact hd')
          have hxm := List.mem_of_getElem? hx
          have hqm : q ∈ ns.map fun n => (n, behindC h it ss) := hl ▸ List.mem_of_getElem? hq
          obtain ⟨nn, hnm, rfl⟩ := List.mem_map.mp hqm
          have hdx : x.2.dep ≤ n := Nat.le_trans (Ways.dep_le hxm) (by omega)
          have hel := hbs.len
          rw [List.length_take, List.length_map] at hel
          refine gNN F' hv fun v1 v2 v3 F4 => ?_
          refine sq (st_set2X F4 (ev_most (h := h) (r := r) (cs := cs) (p := nn) (s := behindC h it ss) (w := x.2) hW hT rfl (ev_v rfl) (ev_v rfl) (ev_v rfl) (ev_ix (ds := [dN x.1, encW x.2]) (ev_v rfl) ev_i rfl) ho hro hcs (hnn nn hnm).1 (beh_ok ho hit hs) hwx hdx) fun v4 v5 y1 y2 H5 e5 F5 ⟨e, hbe, ey1, ey2⟩ => ?_)
          subst ey1
          subst ey2
          dsimp only
          have hle := evs_len r cs n x.2 nn hdx e hbe.1
          refine st_app F5 rfl (by rw [List.length_map]; omega) (ev_tup (eu_c (ev_v rfl) (eu_c (ev_cat (xs := [encItem it, .tuple [.str "to", dN nn]]) (ev_tup (eu_c (ev_ix (ds := [encItem it, dNs ns]) (ev_ix (ev_road Wc hW rfl) (ev_v rfl) (at_Pl hrp)) ev_i rfl) (eu_c (ev_tup (eu_c ev_s (eu_c (ev_v rfl) eu_nil)) (Nat.le_of_ble_eq_true rfl)) eu_nil)) (Nat.le_of_ble_eq_true rfl)) (ev_v rfl) (by rw [List.length_map]; show 2 + _ ≤ _; omega)) eu_nil)) (Nat.le_of_ble_eq_true rfl)).ev fun d6 H6 F6 tk p6 => ?_
          subst p6
          have hxn : x.1 = nn := hqx
          have en : encE (e.1, UE.item (itemAt r p) :: UE.to x.1 :: e.2) = .tuple [dN e.1, .tuple ([encItem it, .tuple [.str "to", dN nn]] ++ e.2.map encUE)] := by rw [hxn, hip]; rfl
          have F6' : Fr T none H gs' [.r (.ref a), .d (dNs cs), .d (dN p), .d (encS ss), .d (encW (.on ws)), .l (es.map encE ++ [encE (e.1, UE.item (itemAt r p) :: UE.to x.1 :: e.2)]), _, _, _, _, _, _] H6 _ := en ▸ F6
          have em : es.map encE ++ [encE (e.1, UE.item (itemAt r p) :: UE.to x.1 :: e.2)] = (es ++ [(e.1, UE.item (itemAt r p) :: UE.to x.1 :: e.2)]).map encE := by rw [List.map_append]; rfl
          rw [em] at F6'
          refine ⟨_, F6', _, _, _, _, _, _, _, rfl, ?_⟩
          rw [take_snoc (x := (evsOf r cs x.1 x.2).map fun e => (e.1, UE.item (itemAt r p) :: UE.to x.1 :: e.2)) (by rw [List.getElem?_map, hx]; rfl)]
          have hbe' : Best (evsOf r cs x.1 x.2) e := by rw [hxn]; exact hbe
          exact hbs.snoc (hbe'.map 0 fun l => UE.item (itemAt r p) :: UE.to x.1 :: l)
        · obtain ⟨x6, x7, x8, x9, x10, x11, es, rfl, hbs⟩ := hI
          subst e
          rw [pairs_len (by rw [List.length_map, List.length_map, List.length_map]; exact hlen), List.length_map, hlen, List.take_of_length_le (by rw [List.length_map]; exact Nat.le_refl _)] at hbs
          have hel := hbs.len
          rw [List.length_map] at hel
          have hne : 0 < es.length := by
            rw [hel, ← hlen, hll]
            exact List.length_pos_iff.mpr hn0
          dsimp only
          refine max_ret F' rfl hne hT hbs fun v H4 e e4 b4 r4 => k v H4 e e4 ?_ r4
          rw [evsOf, evsOn_flat]
          exact b4
theorem abase_callA {id attr : Str} {p pos : Pos} {args : List Expr} {kws : List Keyword} {env : Env} {whole : Sem Value} (h : (id != ("super" : Str)) = true) : attributeBase (.Call (.Name id p) args kws pos) attr env whole = whole := by
  cases args with
  | nil =>
    cases kws with
    | nil => exact abase_call h
    | cons k ks =>
      unfold attributeBase
      rfl
  | cons x xs =>
    unfold attributeBase
    rfl
/-! ### Walk(house, route) -/
def spInit (C : Addr) : Sp := fun vs H Q _ => ∃ x dx vh vr, vs = [.ref x, vh, vr] ∧ H x = some (.ins C dx []) ∧ ∀ fs1, Q .non (upd (upd H x (.ins C dx fs1)) x (.ins C dx (putF ("road" : Str) vr (putF ("ground" : Str) vh []))))
theorem ok_init {C fI fM : Addr} {fdI fdM : FuncData} (Wc : WalkC K mg C fI fM fdI fdM) (FI : Fun K "__init__" "Walk.__init__" s_Walk___init__ fI fdI) : FnOk P w K mg base CX0 1 fI fdI ["self", "house", "route"] (spInit C) := by
  refine FI.ok sc_Walk___init__ (fun vs H Q E h => ?_) (fun cdv A outer s H vs Q E hr h => ?_)
  · obtain ⟨x, dx, vh, vr, rfl, _⟩ := h
    rfl
  · obtain ⟨x, dx, vh, vr, rfl, h1, k⟩ := h
    refine ⟨_, (pss_cons (ps_fld (pv 0) (pv 1) rfl)
      (pss_one (ps_fld (pv 0) (pv 2) rfl))), ?_⟩
    refine ⟨_, rfl, _, rfl, x, C, dx, [], rfl, h1, Wc.cl, Wc.nG, by decide, ?_⟩
    exact ⟨_, rfl, _, rfl, x, C, dx, _, rfl, upd_same, Wc.cl, Wc.nR, by show 1 < 1000; decide, k _⟩
/-! ### ways lived -/
theorem beh_from {h : House} {it : Item} {s : List Con} {y : Con} (hy : y ∈ behindC h it s) : ∃ x ∈ s, ∃ t, (y, t) ∈ toldU h x (.item it) := by
  cases it with
  | deed k =>
    obtain ⟨x, hx, hxy⟩ := List.mem_map.mp (norm_sub (show y ∈ norm (s.map (doneC h k)) from hy))
    subst hxy
    exact ⟨x, hx, _, List.mem_singleton.mpr rfl⟩
  | perhaps k =>
    rcases List.mem_append.mp (norm_sub (show y ∈ norm (s ++ s.map (doneC h k)) from hy)) with hx | hx
    · exact ⟨y, hx, _, List.mem_cons_self⟩
    · obtain ⟨x, hx2, hxy⟩ := List.mem_map.mp hx
      subst hxy
      exact ⟨x, hx2, _, List.mem_cons_of_mem _ (List.mem_singleton.mpr rfl)⟩
  | stir c =>
    obtain ⟨x, hx, hv⟩ := List.mem_flatMap.mp (norm_sub (show y ∈ norm (stirC h c s) from hy))
    obtain ⟨v, hv2, hxy⟩ := List.mem_map.mp hv
    subst hxy
    exact ⟨x, hx, _, List.mem_map.mpr ⟨v, hv2, rfl⟩⟩
  | ask q => exact ⟨y, hy, _, List.mem_singleton.mpr rfl⟩
  | rest => exact ⟨y, hy, _, List.mem_singleton.mpr rfl⟩
/-- each branch may be lived -/
theorem evs_path {h : House} {r : Route} (ho : HouseOk h) (hro : RouteOk h r) (cs : List Nat) : ∀ (n : Nat) (w : Way) (p : Nat) (s : List Con), w.dep ≤ n → WayOk h r p s w → SetOk h s → ∀ e ∈ evsOf r cs p w, (∀ u ∈ e.2, UEOk h u) ∧ ∃ x ∈ s, ∃ ts y, PathU h x e.2 ts y
  | 0, w, p, s, hd, _, _, e, he => by
    have := dep_pos w
    omega
  | n + 1, .fin, p, s, hd, hw, hs, e, he => by
    rw [evsOf] at he
    rw [List.mem_singleton.mp he]
    cases s with
    | nil => exact absurd rfl hs.ne
    | cons x r => exact ⟨fun _ z => (nomatch z), x, List.mem_cons_self, [], x, .nil⟩
  | n + 1, .look c ws, p, s, hd, hw, hs, e, he => by
    obtain ⟨hc, hws⟩ : c < h.sizes.length ∧ WaysOk h r ((partedC h s c).map fun q => (q.1, p, q.2)) ws := by cases hw with | look h1 h2 => exact ⟨h1, h2⟩
    rw [Way.dep] at hd
    rw [evsOf, evsLook_flat] at he
    obtain ⟨l, hl, he⟩ := List.mem_flatten.mp he
    obtain ⟨q, hq, rfl⟩ := List.mem_map.mp hl
    obtain ⟨e', he', rfl⟩ := List.mem_map.mp he
    obtain ⟨i, hi⟩ := List.mem_iff_getElem?.mp hq
    obtain ⟨pt, hpt, hq1, hq2⟩ : ∃ pt, pt ∈ partedC h s c ∧ q.1 = pt.1 ∧ WayOk h r p pt.2 q.2 := by
      have go : ∀ {xs : List (Nat × List Con)} {ys : List (Nat × Way)}, Paired (fun x y => y.1 = x.1 ∧ WayOk h r p x.2 y.2) xs ys → ∀ y ∈ ys, ∃ x ∈ xs, y.1 = x.1 ∧ WayOk h r p x.2 y.2 := by
        intro xs ys hp
        induction hp with
        | nil => exact fun y hy => (nomatch hy)
        | cons h1 _ ih =>
          intro y hy
          rcases List.mem_cons.mp hy with rfl | hy
          · exact ⟨_, List.mem_cons_self, h1⟩
          · obtain ⟨x, hx, hr⟩ := ih y hy
            exact ⟨x, List.mem_cons_of_mem _ hx, hr⟩
      obtain ⟨x, hx, h1, h2⟩ := go (pair_maps hws.paired) q hq
      exact ⟨x, hx, h1, h2⟩
    obtain ⟨_, hs2, hs3⟩ := parted_mem hpt
    obtain ⟨g1, x, hx, ts, y, hp⟩ := evs_path ho hro cs n q.2 p pt.2 (Nat.le_trans (Ways.dep_le hq) (by omega)) hq2 (hs2 ▸ saw_ok hs.g (hs2 ▸ hs3)) e' he'
    rw [hs2] at hx
    obtain ⟨hx1, hx2⟩ := List.mem_filter.mp hx
    refine ⟨fun u hu => ?_, x, hx1, .saw c q.1 :: ts, y, .cons ?_ hp⟩
    · rcases List.mem_cons.mp hu with rfl | hu
      · exact hc
      · exact g1 u hu
    · show (x, TEv.saw c q.1) ∈ if x.getD c 0 = q.1 then [(x, TEv.saw c q.1)] else []
      rw [if_pos (by rw [hq1]; exact of_decide_eq_true hx2)]
      exact List.mem_singleton.mpr rfl
  | n + 1, .on ws, p, s, hd, hw, hs, e, he => by
    obtain ⟨l, hgo, hws⟩ : ∃ l, goC h r p s = some l ∧ WaysOk h r (l.map fun q => (q.1, q.1, q.2)) ws := by cases hw with | on h1 h2 => exact ⟨_, h1, h2⟩
    rw [Way.dep] at hd
    obtain ⟨it, ns, hrp, _, hl⟩ := go_mem hgo
    have hit : ItemOk h it := hro.items _ (List.mem_of_getElem? hrp)
    have hip : itemAt r p = it := by unfold itemAt; rw [getD_of hrp]
    rw [evsOf, evsOn_flat] at he
    obtain ⟨l', hl', he⟩ := List.mem_flatten.mp he
    obtain ⟨q, hq, rfl⟩ := List.mem_map.mp hl'
    obtain ⟨e', he', rfl⟩ := List.mem_map.mp he
    obtain ⟨nn, hnn, hq1, hq2⟩ : ∃ nn, nn ∈ ns ∧ q.1 = nn ∧ WayOk h r nn (behindC h it s) q.2 := by
      have go : ∀ {xs : List (Nat × List Con)} {ys : List (Nat × Way)}, Paired (fun x y => y.1 = x.1 ∧ WayOk h r x.1 x.2 y.2) xs ys → ∀ y ∈ ys, ∃ x ∈ xs, y.1 = x.1 ∧ WayOk h r x.1 x.2 y.2 := by
        intro xs ys hp
        induction hp with
        | nil => exact fun y hy => (nomatch hy)
        | cons h1 _ ih =>
          intro y hy
          rcases List.mem_cons.mp hy with rfl | hy
          · exact ⟨_, List.mem_cons_self, h1⟩
          · obtain ⟨x, hx, hr⟩ := ih y hy
            exact ⟨x, List.mem_cons_of_mem _ hx, hr⟩
      obtain ⟨x, hx, h1, h2⟩ := go (pair_maps hws.paired) q hq
      rw [hl] at hx
      obtain ⟨nn, hnn, rfl⟩ := List.mem_map.mp hx
      exact ⟨nn, hnn, h1, h2⟩
    obtain ⟨g1, y, hy, ts, z, hp⟩ := evs_path ho hro cs n q.2 q.1 (behindC h it s) (Nat.le_trans (Ways.dep_le hq) (by omega)) (hq1 ▸ hq2) (beh_ok ho hit hs) e' he'
    obtain ⟨x, hx, t, ht⟩ := beh_from hy
    refine ⟨fun u hu => ?_, x, hx, t :: .to q.1 :: ts, z, .cons (hip ▸ ht) (.cons (List.mem_singleton.mpr rfl) hp)⟩
    rcases List.mem_cons.mp hu with rfl | hu
    · rw [hip]; exact hit
    · rcases List.mem_cons.mp hu with rfl | hu
      · trivial
      · exact g1 u hu
end
end K22
/-! KH: dearest. -/
namespace K22
open PySem PySem.Spec L2 LamX
section
variable {P : Program} {w : World} {K : PySem.W.Frag} {mg : Str → Option Value} {base : Heap} {T : List (Addr × Str)}
/-- dearest's promise -/
def spDearest (T : List (Addr × Str)) : Sp := fun vs H Q _ => ∃ (h : House) (cs : List Nat) (r : Route) (p : Nat) (s : List Con) (rounds : PyData) (w : Way),
  Args none H vs [.d (encH h), .d (dNs cs), .d (encR r), .d (dN p), .d (encS s), .d rounds, .d (encW w)] ∧ HouseOk h ∧ RouteOk h r ∧ cs.length = 3 ∧ p < r.length ∧ SetOk h s ∧ WayOk h r p s w ∧ w.dep ≤ 100 ∧ Tabs T H ∧
  ∀ v H' x ts e y, Ex T none H H' → x ∈ s → Best (evsOf r cs p w) e → PathU h x e.2 ts y → Dt H' v (.tuple [encC x, encHist ts, dN e.1]) → Q v H'
theorem ok_dearest {C fI fM : Addr} {fdI fdM : FuncData} (Wc : WalkC K mg C fI fM fdI fdM) {f : Addr} {fd : FuncData} (D : Df K mg "dearest" s_dearest f fd ["house", "prices", "route", "place", "some", "rounds", "way"])
    (G_init : FnOk P w K mg base CX0 1 fI fdI ["self", "house", "route"] (spInit C)) (G_most : FnOk P w K mg base CX0 112 fM fdM ["self", "prices", "spot", "some", "way"] (spMost T C 100)) (C1 : Cal P w K mg base "one_true" s_one_true ["house", "some", "items"] 9 (spOne T)) :
    Cal P w K mg base "dearest" s_dearest ["house", "prices", "route", "place", "some", "rounds", "way"] 113 (spDearest T) := by
  obtain ⟨fa, fda, D_one_true, G_one_true⟩ := C1
  refine ⟨f, fd, D, D.F.ok sc_dearest (fun vs H Q E h => ?_) (fun cdv A outer s H vs Q E hr h => ?_)⟩
  · obtain ⟨_, _, _, _, _, _, _, h1, _⟩ := h
    exact h1.len
  · obtain ⟨h, cs, r, p, ss, rounds, w, hA, ho, hro, hcs, hp, hs, hw, hd, hT, k⟩ := h
    have F0 := Fr.start (T := T) (po := none) (N := ["house", "prices", "route", "place", "some", "rounds", "way", "paid", "events"]) (fun _ z => nomatch z) hA (by rw [hA.len]; exact Nat.le_of_ble_eq_true rfl)
    refine ⟨_, (pss_cons (ps_asg (pe_meth (pe_make Wc.made G_init (hr.mono (by omega)) (by rfl) Wc.mgC Wc.bI .nil pass0 (pa_cons (pv 0) (pa_cons (pv 2) pa_nil))) Wc.cl Wc.mM G_most (hr.mono (by omega)) Wc.bM .nil pass0 (pa_cons (pv 1) (pa_cons (pv 3) (pa_cons (pv 4) (pa_cons (pv 6) pa_nil)))) (ht := mcall_of (abase_callA (by decide)) fun ov => mcall_line rfl rfl)) (pg_tup (by rfl) (pgs_cons (pg_name (i := 7) sc_dearest.nd rfl (Or.inl rfl)) (pgs_cons (pg_name (i := 8) sc_dearest.nd rfl (Or.inl rfl)) pgs_nil))))
      (pss_one (ps_ret (pe_op op_catA (pe_call G_one_true (hr.mono (by omega)) (by rfl) D_one_true.m D_one_true.F.kp D_one_true.b .nil pass0 (pa_cons (pv 0) (pa_cons (pv 4) (pa_cons (pv 8) pa_nil)))) (pe_tup (pa_cons (pv 7) pa_nil)))))), ?_⟩
    refine sq (st_set2X (Pd := fun x y => ∃ e, Best (evsOf r cs p w) e ∧ x = dN e.1 ∧ y = encUEs e.2) F0 (fun σ H1 F Q q => ?_) fun v1 v2 y1 y2 H5 e5 F5 ⟨e, hbe, ey1, ey2⟩ => ?_)
    · unfold tMeth tMake
      refine (ea_c (ev_v (i := 0) rfl) (ea_c (ev_v (i := 2) rfl) ea_nil)) σ H1 F _ fun vs2 xs2 H2 e2 F2 r2 p2 => ?_
      subst p2
      rcases r2 with _ | @⟨va, _, _, _, ⟨va', ea, ra⟩, _, r2⟩
      rcases r2 with _ | @⟨vb, _, _, _, ⟨vb', eb, rb⟩, _, r2⟩
      cases r2
      have ea := Option.some.inj (Option.some.inj ea)
      have eb := Option.some.inj (Option.some.inj eb)
      subst ea
      subst eb
      intro x dx hx hdx hne
      refine ⟨x, dx, va, vb, rfl, upd_same, fun fs1 => ⟨rfl, ?_⟩⟩
      have sm : Same H2 (upd (upd (upd (upd H2 dx (.own x)) x (.ins C dx [])) x (.ins C dx fs1)) x (.ins C dx (putF ("road" : Str) vb (putF ("ground" : Str) va [])))) := fun b o hb => by
        have n1 : b ≠ x := ne_of_none hb hx
        have n2 : b ≠ dx := ne_of_none hb hdx
        rw [upd_ne n1, upd_ne n1, upd_ne n1, upd_ne n2]
        exact hb
      have e3 : Ex T none H2 _ := Ex.same sm
      have F3 := F2.mono e3
      refine ⟨x, dx, _, rfl, upd_same, rfl, ?_⟩
      refine (ea_c (ev_v (i := 1) rfl) (ea_c (ev_v (i := 3) rfl) (ea_c (ev_v (i := 4) rfl) (ea_c (ev_v (i := 6) rfl) ea_nil)))) σ _ F3 _ fun vs3 xs3 H4 e4 F4 r4 p4 => ?_
      subst p4
      rw [List.append_nil]
      have hW : IsWalk H4 x C h r := IsWalk.mono (T := T) ⟨dx, _, va, vb, upd_same, rfl, rfl, rfl, ra.mono e3.tup, rb.mono e3.tup⟩ e4
      refine ⟨x, h, r, cs, p, ss, w, .cons (x := .r (.ref x)) rfl (fun _ z => nomatch z) r4, hW, ho, hro, hcs, hp, hs, hw, hd, F4.ext.tab hT, fun v H5 e e5 b r5 => ?_⟩
      exact q v _ H5 (e2.trans (e3.trans (e4.trans e5))) (F4.mono e5) r5 ⟨_, _, rfl, e, b, rfl, rfl⟩
    · subst ey1
      subst ey2
      dsimp only
      obtain ⟨g1, x, hx, ts, y, hpath⟩ := evs_path ho hro cs 100 w p ss hd hw hs e hbe.1
      have hle := evs_len r cs 100 w p hd e hbe.1
      refine st_ret F5 (ev_catX (Pa := fun l => ∃ x ∈ ss, ∃ ts y, PathU h x e.2 ts y ∧ l = [encC x, encHist ts]) (Pb := fun l => l = [dN e.1])
        ((ev_c (args := fun a : House × List Con × List UE => [.d (encH a.1), .d (encS a.2.1), .d (encUEs a.2.2)]) (h, ss, e.2) (ea_c (ev_v (i := 0) rfl) (ea_c (ev_v (i := 4) rfl) (ea_c (ev_v (i := 8) rfl) ea_nil))) ⟨ho, hs.g, g1, by dsimp only; omega, x, hx, ts, y, hpath⟩).imp fun d ⟨x2, hx2, ts2, y2, hp2, ed⟩ => ⟨_, ed, x2, hx2, ts2, y2, hp2, rfl⟩)
        ((ev_tup (eu_c (ev_v (i := 7) rfl) eu_nil) (Nat.le_of_ble_eq_true rfl)).ev.imp fun d e => ⟨_, e, rfl⟩) (fun xs ys ⟨_, _, _, _, _, e1⟩ e2 => by rw [e1, e2]; exact Nat.le_of_ble_eq_true rfl)) fun v d H6 e6 r6 ⟨xs, ys, ed, ⟨x2, hx2, ts2, y2, hp2, e1⟩, e2⟩ => ?_
      subst e1
      subst e2
      subst ed
      exact k v H6 x2 ts2 e y2 e6 hx2 hbe hp2 r6
end
end K22
/-! LA: the law's pen. -/
namespace K22
open PySem PySem.Spec L2 LamX
abbrev s__law_pen : Stmt := topS 24
theorem sc__law_pen : FnScope ["_law_script"] ["_law_script"] (defScope s__law_pen) := ⟨rfl, rfl, rfl, by decide +kernel, rfl, by decide +kernel, by decide +kernel⟩
abbrev s__law_fresh : Stmt := topS 25
theorem sc__law_fresh : FnScope ["_law_pen_here", "_law_at", "_law_cell", "_law_p", "_law_state", "_law_found", "_law_turn"] ["_law_pen_here"] (defScope s__law_fresh) := ⟨rfl, rfl, rfl, by decide +kernel, rfl, by decide +kernel, by decide +kernel⟩
abbrev s__law_draw : Stmt := topS 26
theorem sc__law_draw : FnScope ["_law_pen_here", "_law_many", "_law_digit"] ["_law_pen_here", "_law_many"] (defScope s__law_draw) := ⟨rfl, rfl, rfl, by decide +kernel, rfl, by decide +kernel, by decide +kernel⟩
abbrev s__law_one_of : Stmt := topS 27
theorem sc__law_one_of : FnScope ["_law_pen_here", "_law_rows"] ["_law_pen_here", "_law_rows"] (defScope s__law_one_of) := ⟨rfl, rfl, rfl, by decide +kernel, rfl, by decide +kernel, by decide +kernel⟩
section
variable {T : List (Addr × Str)} {Pn : PenD} {Hb : Hp} {gs : List (V × AV)} {env : List AV} {K : PySem.W.Frag} {ta tb te : TE} {σ : L2.St} {H : Hp} {D : Ends} {i j k : Nat}
theorem pen_store (h : Pen Pn H) {k : Nat} (hk : k = 1 ∨ k = 2) (z : Int) : ∃ xs : List V, H Pn.p = some (.lst xs) ∧ xs.length = 3 ∧ Ex T (some Pn) H (upd H Pn.p (.lst (xs.set k (.int z)))) := by
  have hne := h.ne
  obtain ⟨⟨a, b, h1⟩, h2, h3⟩ := h
  refine ⟨_, h1, rfl, fun c o n1 n2 q => ?_, .of fun c u hu q => ?_, fun P' e _ => ?_, fun c q => ?_, fun q => tabs_lst q h1⟩
  · rw [upd_ne (n1 Pn rfl)]
    exact q
  · rw [upd_ne (ne_of q h1 (fun z => by subst z; exact hu))]
    exact q
  · cases e
    rcases hk with rfl | rfl
    · exact ⟨⟨z, b, upd_same⟩, by rw [upd_ne hne]; exact h2, h3⟩
    · exact ⟨⟨a, z, upd_same⟩, by rw [upd_ne hne]; exact h2, h3⟩
  · by_cases e : c = Pn.p
    · subst e
      rw [upd_same] at q
      cases q
    · rw [upd_ne e] at q
      exact q
theorem ev_pen (h0 : env[i]? = some (.r (.ref Pn.p))) {k : Nat} (hk : k = 1 ∨ k = 2) : Ev T (some Pn) Hb gs env (tOp (rIxL K) (tVar i) (tC (.int (k : Nat)))) (fun d => ∃ z, d = .int z) := fun σ H F Q q => by
  obtain ⟨⟨a, b, h1⟩, h2, h3⟩ := F.penNow Pn rfl
  rcases hk with rfl | rfl
  · exact ⟨_, F.rf h0, Pn.p, _, _, .int a, rfl, rfl, SqL.of h1, rfl, q _ _ H (Ex.refl H) F (.int a) ⟨a, rfl⟩⟩
  · exact ⟨_, F.rf h0, Pn.p, _, _, .int b, rfl, rfl, SqL.of h1, rfl, q _ _ H (Ex.refl H) F (.int b) ⟨b, rfl⟩⟩
theorem ek_pen (h0 : env[i]? = some (.r (.ref Pn.p))) : EvK T (some Pn) Hb gs env (tOp (rIxL K) (tVar i) (tC (.int 0))) (fun ds => ds = Pn.ns.map PyData.int) := fun σ H F Q q => by
  have hne := (F.penNow Pn rfl).ne
  obtain ⟨⟨a, b, h1⟩, h2, h3⟩ := F.penNow Pn rfl
  exact ⟨_, F.rf h0, Pn.p, _, 0, .ref Pn.c, rfl, rfl, SqL.of h1, rfl, q Pn.c _ _ H (Ex.refl H) F (fun P' e => by cases e; exact hne) h2 (DtA.of_ints _) rfl⟩
theorem st_pen (F : Fr T (some Pn) Hb gs env H σ) (h0 : env[i]? = some (.r (.ref Pn.p))) {k : Nat} (hk : k = 1 ∨ k = 2) (h : Ev T (some Pn) Hb gs env te fun d => ∃ z, d = .int z) (q : ∀ H', Ex T (some Pn) H H' → Fr T (some Pn) Hb gs env H' σ → D.nx σ H') :
    tAsg te (gSub (tVar i) (tC (.int (k : Nat))) rSetL) D σ H := h σ H F _ fun v d H1 e1 F1 r1 ⟨z, ed⟩ => by
  subst ed
  obtain rfl := r1.i
  obtain ⟨xs, hx, hl, e2⟩ := pen_store (T := T) (F1.penNow Pn rfl) hk z
  refine ⟨_, F1.rf h0, Pn.p, xs, k, k, rfl, rfl, hx, ?_, q _ (e1.trans e2) (F1.mono e2)⟩
  rw [hl]
  rcases hk with rfl | rfl <;> rfl
/-- if, and on together -/
theorem st_ifJ {T : List (Addr × Str)} {po : Option PenD} {Hb : Hp} {gs : List (V × AV)} {env : List AV} {σ : L2.St} {H : Hp} {D : Ends} {tt : TT} {t u : TS} {Pb : Bool → Prop} (I : List AV → Prop) (F : Fr T po Hb gs env H σ) (h : EvT T po Hb gs env tt Pb)
    (q1 : ∀ (D' : Ends) H', Fr T po Hb gs env H' σ → Pb true → (∀ env' σ' H2, Fr T po Hb gs env' H2 σ' → I env' → D'.nx σ' H2) → t D' σ H')
    (q2 : ∀ (D' : Ends) H', Fr T po Hb gs env H' σ → Pb false → (∀ env' σ' H2, Fr T po Hb gs env' H2 σ' → I env' → D'.nx σ' H2) → u D' σ H')
    (q : ∀ env' σ' H2, Fr T po Hb gs env' H2 σ' → I env' → D.nx σ' H2) : tIfS tt t u D σ H :=
  st_if F h (fun H' _ F' p => q1 D H' F' p q) fun H' _ F' p => q2 D H' F' p q
/-! numbers of which something is known -/
def IntP (R : Int → Prop) (d : PyData) : Prop := ∃ z : Int, d = .int z ∧ R z
abbrev isI : PyData → Prop := fun d => ∃ z : Int, d = .int z
end
section
variable {T : List (Addr × Str)} {po : Option PenD} {Hb : Hp} {gs : List (V × AV)} {env : List AV} {K : PySem.W.Frag} {ta tb te : TE} {σ : L2.St} {H : Hp} {D : Ends} {i j k : Nat} {R S U : Int → Prop}
theorem ev_ip {i : Int} (h : Ev T po Hb gs env te (· = .int i)) (r : R i) : Ev T po Hb gs env te (IntP R) := h.imp fun d e => ⟨i, e, r⟩
theorem EvD.ip {i : Int} (h : EvD T po Hb gs env te (.int i)) (r : R i) : Ev T po Hb gs env te (IntP R) := ev_ip h.ev r
theorem EvD.isI {i : Int} (h : EvD T po Hb gs env te (.int i)) : Ev T po Hb gs env te isI := h.ev.imp fun d e => ⟨i, e⟩
theorem IntP.isI {d : PyData} (h : IntP R d) : isI d := h.elim fun z q => ⟨z, q.1⟩
theorem ev_addI (ha : Ev T po Hb gs env ta isI) (hb : Ev T po Hb gs env tb isI) : Ev T po Hb gs env (tOp (rI0 fun i j => .int (i + j)) ta tb) isI :=
  ev_I0X (r := fun i j => .int (i + j)) (fun _ _ _ => .int _) ha hb fun _ _ ⟨i, e1⟩ ⟨j, e2⟩ => ⟨i, j, e1, e2, _, rfl⟩
theorem ev_subI (ha : Ev T po Hb gs env ta isI) (hb : Ev T po Hb gs env tb isI) : Ev T po Hb gs env (tOp (rI0 fun i j => .int (i - j)) ta tb) isI :=
  ev_I0X (r := fun i j => .int (i - j)) (fun _ _ _ => .int _) ha hb fun _ _ ⟨i, e1⟩ ⟨j, e2⟩ => ⟨i, j, e1, e2, _, rfl⟩
theorem ev_addP (ha : Ev T po Hb gs env ta (IntP R)) (hb : Ev T po Hb gs env tb (IntP S)) (h : ∀ i j, R i → S j → U (i + j)) : Ev T po Hb gs env (tOp (rI0 fun i j => .int (i + j)) ta tb) (IntP U) :=
  ev_I0X (r := fun i j => .int (i + j)) (fun _ _ _ => .int _) ha hb fun _ _ ⟨i, e1, r1⟩ ⟨j, e2, r2⟩ => ⟨i, j, e1, e2, _, rfl, h i j r1 r2⟩
theorem ev_mulP (ha : Ev T po Hb gs env ta (IntP R)) (hb : Ev T po Hb gs env tb (IntP S)) (h : ∀ i j, R i → S j → CMul i j ∧ U (i * j)) : Ev T po Hb gs env (tOp (rI CMul fun i j => .int (i * j)) ta tb) (IntP U) :=
  ev_I (r := fun i j => .int (i * j)) (fun _ _ _ => .int _) ha hb fun _ _ ⟨i, e1, r1⟩ ⟨j, e2, r2⟩ => ⟨i, j, e1, e2, (h i j r1 r2).1, _, rfl, (h i j r1 r2).2⟩
theorem ev_mulR (ha : Ev T po Hb gs env ta isI) {j : Int} (hb : EvD T po Hb gs env tb (.int j)) (hj : -(2 ^ 64) < j ∧ j < 2 ^ 64) : Ev T po Hb gs env (tOp (rI CMul fun i j => .int (i * j)) ta tb) isI :=
  ev_I (r := fun i j => .int (i * j)) (fun _ _ _ => .int _) ha hb.ev fun _ _ ⟨i, e1⟩ e2 => ⟨i, j, e1, e2, .inr hj, _, rfl⟩
theorem ev_mulL {i : Int} (ha : EvD T po Hb gs env ta (.int i)) (hb : Ev T po Hb gs env tb isI) (hi : -(2 ^ 64) < i ∧ i < 2 ^ 64) : Ev T po Hb gs env (tOp (rI CMul fun i j => .int (i * j)) ta tb) isI :=
  ev_I (r := fun i j => .int (i * j)) (fun _ _ _ => .int _) ha.ev hb fun _ _ e1 ⟨j, e2⟩ => ⟨i, j, e1, e2, .inl hi, _, rfl⟩
theorem ev_powD {i j : Int} (ha : EvD T po Hb gs env ta (.int i)) (hb : EvD T po Hb gs env tb (.int j)) (h : CPow i j) : EvD T po Hb gs env (tOp (rI CPow fun i j => .int (i ^ j.toNat)) ta tb) (.int (i ^ j.toNat)) :=
  Ev.one (ev_I (r := fun i j => .int (i ^ j.toNat)) (fun _ _ _ => .int _) ha.ev hb.ev fun _ _ e1 e2 => ⟨i, j, e1, e2, h, rfl⟩)
/-- % by n: a number below n -/
theorem ev_modU {n : Nat} (hn : 0 < n) (ha : Ev T po Hb gs env ta isI) (hb : EvD T po Hb gs env tb (.int (n : Nat))) : Ev T po Hb gs env (tOp (rI (fun _ j => j ≠ 0) fun i j => .int (i.fmod j)) ta tb) (fun d => ∃ r : Nat, r < n ∧ d = dN r) :=
  ev_I (r := fun i j => .int (i.fmod j)) (fun _ _ _ => .int _) ha hb.ev fun _ _ ⟨i, e1⟩ e2 => ⟨i, n, e1, e2, by omega, (i.fmod n).toNat, by
    have h0 := Int.fmod_nonneg_of_pos i (show (0 : Int) < (n : Nat) by omega)
    have h1 := Int.fmod_lt_of_pos i (show (0 : Int) < (n : Nat) by omega)
    exact ⟨by omega, by rw [show dN (i.fmod n).toNat = .int (((i.fmod n).toNat : Nat) : Int) from rfl, Int.toNat_of_nonneg h0]⟩⟩
theorem ev_fdivU {n : Nat} (hn : 0 < n) (h2 : n < 1073741824) (ha : Ev T po Hb gs env ta isI) (hb : EvD T po Hb gs env tb (.int (n : Nat))) : Ev T po Hb gs env (tOp (rI CDivN fun i j => .int (i.fdiv j)) ta tb) isI :=
  ev_I (r := fun i j => .int (i.fdiv j)) (fun _ _ _ => .int _) ha hb.ev fun _ _ ⟨i, e1⟩ e2 => ⟨i, n, e1, e2, ⟨by omega, by omega⟩, _, rfl⟩
theorem ev_ltI (ha : Ev T po Hb gs env ta isI) (hb : Ev T po Hb gs env tb isI) : Ev T po Hb gs env (tOp (rI0 fun i j => .bl (decide (i < j))) ta tb) (fun d => ∃ b, d = .bool b ∧ True) := ev_I0X (r := fun i j => .bool (decide (i < j))) (fun _ _ _ => .bl _) ha hb fun _ _ ⟨i, e1⟩ ⟨j, e2⟩ => ⟨i, j, e1, e2, _, rfl, trivial⟩
theorem ev_geI (ha : Ev T po Hb gs env ta isI) (hb : Ev T po Hb gs env tb isI) : Ev T po Hb gs env (tOp (rI0 fun i j => .bl (decide (j ≤ i))) ta tb) (fun d => ∃ b, d = .bool b ∧ True) := ev_I0X (r := fun i j => .bool (decide (j ≤ i))) (fun _ _ _ => .bl _) ha hb fun _ _ ⟨i, e1⟩ ⟨j, e2⟩ => ⟨i, j, e1, e2, _, rfl, trivial⟩
theorem ev_intI (h : Ev T po Hb gs env ta isI) : Ev T po Hb gs env (tCB (fun xs H Q => (∃ i, xs = [.int i] ∧ Q (.int i) H) ∨ ∃ k, xs = [.bl k] ∧ Q (.int (if k then 1 else 0)) H) (tCons ta tNil)) isI := ev_int h fun _ e => e
theorem sh_ints (ns : List Int) : Sh 1 (.list (ns.map PyData.int)) := sh_lst fun d hd => by
  obtain ⟨n, _, rfl⟩ := List.mem_map.mp hd
  exact ⟨rfl, Nat.zero_le _⟩
end
section
variable {P : Program} {w : World} {K : PySem.W.Frag} {mg : Str → Option Value} {base : Heap} {T : List (Addr × Str)}
def spFresh (T : List (Addr × Str)) : Sp := SpP T (α := Unit) (fun _ => []) (fun _ => True) (fun _ d => ∃ z, d = .int z)
theorem ok_fresh (B : Bi mg) {f : Addr} {fd : FuncData} (D : Df K mg "_law_fresh" s__law_fresh f fd ["_law_pen_here"]) : Cal P w K mg base "_law_fresh" s__law_fresh ["_law_pen_here"] 1 (spFresh T) := by
  refine ⟨f, fd, D, D.F.ok sc__law_fresh (fun vs H Q E h => ?_) (fun cdv A outer s H vs Q E hr h => ?_)⟩
  · obtain ⟨a, P, h1, _⟩ := h
    exact h1.len
  · obtain ⟨_, Pn, _, F0, k⟩ := SpP.ent (N := ["_law_pen_here", "_law_at", "_law_cell", "_law_p", "_law_state", "_law_found", "_law_turn"]) h (fun _ => Nat.le_of_ble_eq_true rfl)
    refine ⟨_, (pss_cons (ps_set (i := 1) sc__law_fresh.nd rfl (Or.inl rfl) (pe_ix ix_list (pv 0) pe_int (fun _ _ => rfl)))
      (pss_cons (ps_asg (pe_op op_add (pv 1) pe_int) (pg_sub (pv 0) pe_int set_list))
      (pss_cons (ps_set (i := 2) sc__law_fresh.nd rfl (Or.inl rfl) pe_int)
      (pss_cons (ps_if (pt_cmpR (op_neD hr.units) (pe_ix ix_list (pv 0) pe_int (fun _ _ => rfl)) (pe_lst pa_nil) (nomark _)) (pss_one (ps_set (i := 2) sc__law_fresh.nd rfl (Or.inl rfl) (pe_ix ix_list (pe_ix ix_list (pv 0) pe_int (fun _ _ => rfl)) (pe_op op_modN (pe_callTy call_int1 (by rfl) B.int PyProof.Rows.boot_int (pa_cons (pv 1) pa_nil)) (pe_callB call_len_seq (by rfl) B.len PySem.boot_len (pa_cons (pe_ix ix_list (pv 0) pe_int (fun _ _ => rfl)) pa_nil))) (fun _ _ => rfl)))) pss_nil)
      (pss_cons (ps_if (PW.pt (pw_and (pt_cmpR op_lt (pv 1) (pe_callB call_len_seq (by rfl) B.len PySem.boot_len (pa_cons (pe_ix ix_list (pv 0) pe_int (fun _ _ => rfl)) pa_nil)) (nomark _)) (pw_and1 (pt_cmpR op_ge (pv 2) (pe_op op_pow pe_int pe_int) (nomark _))))) (pss_one (ps_ret (pe_op op_sub (pv 2) (pe_op op_pow pe_int pe_int)))) pss_nil)
      (pss_cons (ps_set (i := 3) sc__law_fresh.nd rfl (Or.inl rfl) pe_int)
      (pss_cons (ps_set (i := 4) sc__law_fresh.nd rfl (Or.inl rfl) (pe_op op_modN (pe_callTy call_int1 (by rfl) B.int PyProof.Rows.boot_int (pa_cons (pe_op op_add (pe_op op_add (pe_op op_mul (pv 2) pe_int) (pe_op op_mul pe_int (pv 1))) pe_int) pa_nil)) (pv 3)))
      (pss_cons (ps_set (i := 5) sc__law_fresh.nd rfl (Or.inl rfl) (pv 4))
      (pss_cons (ps_for PassesOwn.never rfl (pi_range1 (by rfl) B.range (pa_cons pe_int pa_nil)) (pg_name (i := 6) sc__law_fresh.nd rfl (Or.inl rfl)) (pss_cons (ps_set (i := 4) sc__law_fresh.nd rfl (Or.inl rfl) (pe_op op_modN (pe_callTy call_int1 (by rfl) B.int PyProof.Rows.boot_int (pa_cons (pe_op op_add (pe_op op_add (pe_op op_mul (pv 4) (pv 4)) (pe_op op_mul (pe_op op_mul pe_int (pe_op op_add (pv 6) pe_int)) (pe_op op_add (pv 1) pe_int))) (pv 2)) pa_nil)) (pv 3)))
      (pss_one (ps_set (i := 5) sc__law_fresh.nd rfl (Or.inl rfl) (pe_op op_add (pe_op op_mul (pv 5) (pv 3)) (pv 4))))))
      (pss_one (ps_ret (pv 5)))))))))))), ?_⟩
    refine sq (st_set F0 (ev_pen (k := 1) rfl (.inl rfl)) fun v1 d1 H1 e1 F1 ⟨at_, p1⟩ => ?_)
    subst p1
    dsimp only
    refine sq (st_pen (k := 1) F1 rfl (.inl rfl) (ev_addI (ev_v (x := .int at_) rfl).isI ev_i.isI) fun H2 e2 F2 => ?_)
    dsimp only
    refine sq (st_set F2 (ev_i (i := 0)).ev fun v3 d3 H3 e3 F3 p3 => ?_)
    subst p3
    dsimp only
    refine sq (st_ifJ (fun env' => ∃ c : Int, env' = [.r (.ref Pn.p), .d (.int at_), .d (.int c), .u, .u, .u, .u]) F3 (etX (Pb := fun b => b = !(Pn.ns.map PyData.int).isEmpty) ((ev_neL (ek_pen rfl) fun ds e => by rw [e]; exact (sh_ints _).shaped).imp fun d ⟨ds, e1, e2⟩ => ⟨_, e2, by rw [e1]⟩))
      (fun D' H4 F4 p4 q4 => ?_) (fun D' H4 F4 p4 q4 => q4 _ _ _ F4 ⟨0, rfl⟩) fun env' σ' H5 F5 ⟨c, ec⟩ => ?_)
    · have hne : Pn.ns ≠ [] := fun e => by
        rw [e] at p4
        cases p4
      have hpos : 0 < Pn.ns.length := List.length_pos_iff.mpr hne
      refine st_set F4 (Pd := isI) (ev_ixKX (ek_pen rfl) (ev_modU (n := Pn.ns.length) hpos (ev_intI (ev_v (x := .int at_) rfl).isI) ((ev_lenK (ek_pen rfl)).imp fun d ⟨ds, e1, e2⟩ => by rw [e2, e1, List.length_map]).one) fun ds y e1 ⟨r, hr, ey⟩ => ⟨_, .int Pn.ns[r], ey, by
        rw [e1]
        exact at_nat (f := PyData.int) (List.getElem?_eq_getElem hr), _, rfl⟩) fun v5 d5 H5 e5 F5 ⟨c, ec⟩ => ?_
      subst ec
      exact q4 _ _ _ F5 ⟨c, rfl⟩
    · subst ec
      dsimp only
      refine sq (st_if F5 (et_and (Pa := fun _ => True) (Pb := fun _ => True) (Pc := fun _ => True) (etX (ev_ltI (ev_v (x := .int at_) rfl).isI ((ev_lenK (ek_pen rfl)).imp fun d ⟨ds, e1, e2⟩ => ⟨_, e2⟩))) (fun _ => etX (ev_geI (ev_v (x := .int c) rfl).isI (ev_powD ev_i ev_i (by unfold CPow; decide)).isI)) (fun _ => trivial) (fun _ _ _ => trivial)) (fun H6 e6 F6 _ => ?_) fun H6 e6 F6 _ => ?_)
      · exact st_ret F6 (ev_subI (ev_v (x := .int c) rfl).isI (ev_powD ev_i ev_i (by unfold CPow; decide)).isI) fun v d H7 e7 r7 p7 => k v d H7 e7 r7 p7
      · dsimp only [tNext]
        refine sq (st_set F6 (ev_i (i := 2305843009213693951)).ev fun v7 d7 H7 e7 F7 p7 => ?_)
        subst p7
        dsimp only
        have big : (0 : Int) < 2305843009213693951 := by decide
        refine sq (st_set F7 (Pd := fun d => ∃ r : Nat, r < 2305843009213693951 ∧ d = dN r) (ev_modU (n := 2305843009213693951) (by decide) (ev_intI (ev_addI (ev_addI (ev_mulR (ev_v (x := .int c) rfl).isI ev_i (by decide)) (ev_mulL ev_i (ev_v (x := .int at_) rfl).isI (by decide))) ev_i.isI)) (ev_v rfl)) fun v8 d8 H8 e8 F8 ⟨st, hst, p8⟩ => ?_)
        subst p8
        dsimp only
        refine sq (st_set F8 (ev_v (x := dN st) rfl).ev fun v9 d9 H9 e9 F9 p9 => ?_)
        subst p9
        dsimp only
        refine sq (st_forR (fun n m env' σ' H' => ∃ (s : Nat) (f : Int) (x6 : AV), s < 2305843009213693951 ∧ env' = [.r (.ref Pn.p), .d (.int at_), .d (.int c), .d (.int 2305843009213693951), .d (dN s), .d (.int f), x6]) F9 (Pd := fun d => d = .int (6 : Nat)) ev_i.ev (fun d e => ⟨6, e, by decide⟩) (fun n H' e p => ⟨st, st, _, hst, rfl⟩) (fun n k2 env' σ' H' p hk F' hI => ?_) (fun n env' σ' H' p F' hI => ?_))
        · obtain ⟨s, f2, x6, hs, rfl⟩ := hI
          refine gN F' (.int _) fun F2 => ?_
          have hn6 : n = 6 := by have := PyData.int.inj p; omega
          have m1 : ∀ {env : List AV}, env[4]? = some (.d (dN s)) → Ev T (.some Pn) H [] env (tOp (rI CMul fun i j => .int (i * j)) (tVar 4) (tVar 4)) isI := fun h =>
            (ev_mulP (U := fun _ => True) ((ev_v (x := dN s) h).ip (R := fun z => z = (s : Int)) rfl) ((ev_v (x := dN s) h).ip (R := fun z => z = (s : Int)) rfl) fun i j hi hj => ⟨.inl ⟨by omega, by omega⟩, trivial⟩).imp fun d e => e.isI
          have m2 : ∀ {env : List AV}, env[6]? = some (.d (dN k2)) → env[1]? = some (.d (.int at_)) → Ev T (.some Pn) H [] env (tOp (rI CMul fun i j => .int (i * j)) (tOp (rI CMul fun i j => .int (i * j)) (tC (.int 69621)) (tOp (rI0 fun i j => .int (i + j)) (tVar 6) (tC (.int 1)))) (tOp (rI0 fun i j => .int (i + j)) (tVar 1) (tC (.int 1)))) isI := fun h h1 =>
            (ev_mulP (R := fun z => z = 69621 * ((k2 : Int) + 1)) (S := fun _ => True) (U := fun _ => True) (ev_mulP (R := fun z => z = 69621) (S := fun z => z = (k2 : Int) + 1) (U := fun z => z = 69621 * ((k2 : Int) + 1)) (ev_i.ip rfl) ((ev_add (ev_v h) ev_i).ip rfl) (fun i j hi hj => ⟨.inl ⟨by omega, by omega⟩, by rw [hi, hj]⟩)) ((ev_addI (ev_v h1).isI ev_i.isI).imp fun d ⟨z, q⟩ => ⟨z, q, trivial⟩) (fun i j hi _ => ⟨.inl ⟨by omega, by omega⟩, trivial⟩)).imp fun d e => e.isI
          refine sq (st_set F2 (Pd := fun d => ∃ r : Nat, r < 2305843009213693951 ∧ d = dN r) (ev_modU (n := 2305843009213693951) (by decide) (ev_intI (ev_addI (ev_addI (m1 rfl) (m2 rfl rfl)) (ev_v (x := .int c) rfl).isI)) (ev_v rfl)) fun v3 d3 H3 e3 F3 ⟨s3, hs3, p3⟩ => ?_)
          subst p3
          dsimp only
          refine st_set F3 (Pd := isI) (ev_addI (ev_mulR (ev_v (x := .int f2) rfl).isI (ev_v rfl) (by decide)) (ev_v (x := dN s3) rfl).isI) fun v4 d4 H4 e4 F4 ⟨f4, p4⟩ => ?_
          subst p4
          exact ⟨_, F4, s3, f4, _, hs3, rfl⟩
        · obtain ⟨s, f2, x6, hs, rfl⟩ := hI
          exact st_ret F' (ev_v (x := .int f2) rfl).isI fun v d H7 e7 r7 p7 => k v d H7 e7 r7 p7
def spDraw (T : List (Addr × Str)) : Sp := SpP T (α := Nat) (fun n => [.d (dN n)]) (fun n => 0 < n ∧ n < 1073741824) (fun n d => ∃ r : Nat, r < n ∧ d = dN r)
theorem ok_draw (B : Bi mg) {f : Addr} {fd : FuncData} (D : Df K mg "_law_draw" s__law_draw f fd ["_law_pen_here", "_law_many"]) (C1 : Cal P w K mg base "_law_fresh" s__law_fresh ["_law_pen_here"] 1 (spFresh T)) : Cal P w K mg base "_law_draw" s__law_draw ["_law_pen_here", "_law_many"] 2 (spDraw T) := by
  obtain ⟨fa, fda, D_fresh, G_fresh⟩ := C1
  refine ⟨f, fd, D, D.F.ok sc__law_draw (fun vs H Q E h => ?_) (fun cdv A outer s H vs Q E hr h => ?_)⟩
  · obtain ⟨a, P, h1, _⟩ := h
    exact h1.len
  · obtain ⟨n, Pn, ⟨hn, hn2⟩, F0, k⟩ := SpP.ent (N := ["_law_pen_here", "_law_many", "_law_digit"]) h (fun _ => Nat.le_of_ble_eq_true rfl)
    refine ⟨_, (pss_cons (ps_if (pt_cmpR op_lt (pe_ix ix_list (pv 0) pe_int (fun _ _ => rfl)) (pv 1) (nomark _)) (pss_one (ps_asg (pe_call G_fresh (hr.mono (by omega)) (by rfl) D_fresh.m D_fresh.F.kp D_fresh.b .nil pass0 (pa_cons (pv 0) pa_nil)) (pg_sub (pv 0) pe_int set_list))) pss_nil)
      (pss_cons (ps_set (i := 2) sc__law_draw.nd rfl (Or.inl rfl) (pe_op op_modN (pe_callTy call_int1 (by rfl) B.int PyProof.Rows.boot_int (pa_cons (pe_ix ix_list (pv 0) pe_int (fun _ _ => rfl)) pa_nil)) (pv 1)))
      (pss_cons (ps_asg (pe_op op_fdivN (pe_callTy call_int1 (by rfl) B.int PyProof.Rows.boot_int (pa_cons (pe_ix ix_list (pv 0) pe_int (fun _ _ => rfl)) pa_nil)) (pv 1)) (pg_sub (pv 0) pe_int set_list))
      (pss_one (ps_ret (pv 2)))))), ?_⟩
    refine sq (st_ifJ (fun env' => env' = [.r (.ref Pn.p), .d (dN n), .u]) F0 (etX (ev_ltI (ev_pen (k := 2) rfl (.inr rfl)) (ev_v (x := dN n) rfl).isI)) (fun D' H4 F4 p4 q4 => ?_) (fun D' H4 F4 p4 q4 => q4 _ _ _ F4 rfl) fun env' σ' H5 F5 ec => ?_)
    · exact st_pen (k := 2) F4 rfl (.inr rfl) (ev_p () (ea_r rfl ea_nil) trivial) fun H5 e5 F5 => q4 _ _ _ F5 rfl
    · subst ec
      dsimp only
      refine sq (st_set F5 (ev_modU hn (ev_intI (ev_pen (k := 2) rfl (.inr rfl))) (ev_v rfl)) fun v6 d6 H6 e6 F6 ⟨r, hr, p6⟩ => ?_)
      subst p6
      dsimp only
      refine sq (st_pen (k := 2) F6 rfl (.inr rfl) (ev_fdivU hn hn2 (ev_intI (ev_pen (k := 2) rfl (.inr rfl))) (ev_v rfl)) fun H7 e7 F7 => ?_)
      dsimp only
      exact st_ret F7 (ev_v (x := dN r) rfl).ev fun v d H8 e8 r8 p8 => k v d H8 e8 r8 ⟨r, hr, p8⟩
theorem ev_dr {Pn : PenD} {Hb : Hp} {gs : List (V × AV)} {env : List AV} {tn : TE} {i n : Nat} {E : XK} (h0 : env[i]? = some (.r (.ref Pn.p))) (h : EvD T (.some Pn) Hb gs env tn (dN n)) (hn : 0 < n) (hn2 : n < 1073741824 := by exact Nat.le_of_ble_eq_true rfl) :
    Ev T (.some Pn) Hb gs env (tCall (spDraw T) [] E (tCons (tVar i) (tCons tn tNil))) (fun d => ∃ r : Nat, r < n ∧ d = dN r) := ev_p n (ea_r h0 (ea_c h ea_nil)) ⟨hn, hn2⟩
def spOneOf (T : List (Addr × Str)) : Sp := SpP T (α := List PyData) (fun ds => [.k ds]) (fun ds => ds ≠ [] ∧ ds.length < 16777216) (fun ds d => d ∈ ds)
theorem ok_oneOf (B : Bi mg) {f : Addr} {fd : FuncData} (D : Df K mg "_law_one_of" s__law_one_of f fd ["_law_pen_here", "_law_rows"]) (C1 : Cal P w K mg base "_law_draw" s__law_draw ["_law_pen_here", "_law_many"] 2 (spDraw T)) : Cal P w K mg base "_law_one_of" s__law_one_of ["_law_pen_here", "_law_rows"] 3 (spOneOf T) := by
  obtain ⟨fa, fda, D_draw, G_draw⟩ := C1
  refine ⟨f, fd, D, D.F.ok sc__law_one_of (fun vs H Q E h => ?_) (fun cdv A outer s H vs Q E hr h => ?_)⟩
  · obtain ⟨a, P, h1, _⟩ := h
    exact h1.len
  · obtain ⟨ds, Pn, ⟨hn, hn2⟩, F0, k⟩ := SpP.ent (N := ["_law_pen_here", "_law_rows"]) h (fun _ => Nat.le_of_ble_eq_true rfl)
    refine ⟨_, (pss_one (ps_ret (pe_ix ix_list (pv 1) (pe_call G_draw (hr.mono (by omega)) (by rfl) D_draw.m D_draw.F.kp D_draw.b .nil pass0 (pa_cons (pv 0) (pa_cons (pe_callB call_len_seq (by rfl) B.len PySem.boot_len (pa_cons (pv 1) pa_nil)) pa_nil))) (fun _ _ => rfl)))), ?_⟩
    exact st_ret F0 (Pd := fun d => d ∈ ds) (ev_ixKX (ek_k rfl) (ev_dr (n := ds.length) rfl ((ev_lenK (ek_k rfl)).imp fun d ⟨ds, e1, e2⟩ => by rw [e2, e1]).one (List.length_pos_iff.mpr hn) (by omega)) fun ds' y e1 ⟨r, hr, ey⟩ => ⟨r, ds[r], ey, by rw [e1]; exact atI_nat (List.getElem?_eq_getElem hr), List.getElem_mem hr⟩) k
theorem ev_oneK {Pn : PenD} {Hb : Hp} {gs : List (V × AV)} {env : List AV} {tn : TE} {i : Nat} {ds : List PyData} {E : XK} (h0 : env[i]? = some (.r (.ref Pn.p))) (h : EvK T (.some Pn) Hb gs env tn (· = ds)) (hn : ds ≠ []) (hn2 : ds.length < 16777216) :
    Ev T (.some Pn) Hb gs env (tCall (spOneOf T) [] E (tCons (tVar i) (tCons tn tNil))) (fun d => d ∈ ds) := ev_p ds (ea_r h0 (ea_k h ea_nil)) ⟨hn, hn2⟩
/-! ### the pen is made -/
theorem el_listK {po : Option PenD} {Hb : Hp} {gs : List (V × AV)} {env : List AV} {ta : TE} {Pl : List PyData → Prop} (h : EvK T po Hb gs env ta Pl) : EvL T po Hb gs env (tCB (fun xs H Q => ∃ p ys, xs = [.ref p] ∧ (SqL K H p ys ∨ SqT K H p ys) ∧ ∀ l, H l = none → Q (.ref l) (upd H l (.lst ys))) (tCons ta tNil)) Pl := fun σ H F Q q => by
  refine h σ H F _ fun a vs ds H1 e1 F1 np h1 r1 p1 => ?_
  refine ⟨a, vs, rfl, .inl (SqL.of h1), fun l hl => ?_⟩
  have e2 : Ex T po H1 (upd H1 l (.lst vs)) := Ex.new hl
  exact q _ _ _ _ (e1.trans e2) (F1.mono e2) (e1.dom l hl) upd_same (r1.mono e2.tup) p1
theorem cons_of {ta : TE} {tr : TA} {σ : L2.St} {H : Hp} {Q : List V → Hp → Prop} (h : ta σ H fun v H1 => tr σ H1 fun vs H2 => Q (v :: vs) H2) : tCons ta tr σ H Q := h
/-- the script stays to be read -/
theorem sql_keep {T : List (Addr × Str)} {po : Option PenD} {K : PySem.W.Frag} {H H' : Hp} {a : Addr} {xs : List V} (e : Ex T po H H') (np : H a ≠ none → NP po a) (h : SqL K H a xs) : SqL K H' a xs := by
  rcases h with (h | ⟨o, h⟩) | h
  · exact .inl (.inl (e.keep _ _ (np (by rw [h]; exact fun z => nomatch z)) (fun _ z => nomatch z) h))
  · exact .inl (.inr ⟨o, e.keep _ _ (np (by rw [h]; exact fun z => nomatch z)) (fun _ z => nomatch z) h⟩)
  · exact .inr h
theorem el_slQ {po : Option PenD} {Hb : Hp} {gs : List (V × AV)} {env : List AV} {tl th : TO} {lo hi : Option Int} {i : Nat} {a : Addr} {ns : List Int} (h : env[i]? = some (.r (.ref a))) (hs : ∀ H, Ex T po Hb H → SqL K H a (ns.map V.int)) (h1 : EvO T po Hb gs env tl lo) (h2 : EvO T po Hb gs env th hi) : EvL T po Hb gs env (tSl (rSlL K) (tVar i) tl th) (· = cutD (ns.map PyData.int) lo hi) := fun σ H F Q q => by
  refine ⟨.ref a, F.rf h, h1 σ H F _ fun H2 e2 F2 => h2 σ H2 F2 _ fun H3 e3 F3 => ?_⟩
  refine ⟨a, ns.map V.int, rfl, hs H3 F3.ext, fun p hp => ?_⟩
  have e4 : Ex T po H3 (upd H3 p (.lst (cutV (ns.map V.int) lo hi))) := Ex.new hp
  exact q _ _ _ _ ((e2.trans e3).trans e4) (F3.mono e4) (e2.dom p (e3.dom p hp)) upd_same (cut_dt (DtA.of_ints ns) lo hi) rfl
theorem ev_lenQ {po : Option PenD} {Hb : Hp} {gs : List (V × AV)} {env : List AV} {i : Nat} {a : Addr} {ns : List Int} (h : env[i]? = some (.r (.ref a))) (hs : ∀ H, Ex T po Hb H → SqL K H a (ns.map V.int)) : EvD T po Hb gs env (tCB (fun xs H Q => ∃ p ys, xs = [.ref p] ∧ (SqL K H p ys ∨ SqT K H p ys) ∧ Q (.int ys.length) H) (tCons (tVar i) tNil)) (.int ns.length) := fun σ H F Q q => by
  refine ⟨.ref a, F.rf h, a, ns.map V.int, rfl, .inl (hs H F.ext), ?_⟩
  rw [List.length_map]
  exact q _ H (Ex.refl H) F (.int _)
def spPen (K : PySem.W.Frag) (T : List (Addr × Str)) : Sp := fun vs H Q _ => ∃ (a : Addr) (ns : List Int), vs = [.ref a] ∧ SqL K H a (ns.map V.int) ∧ ∀ (Pn : PenD) H', Ex T none H H' → H Pn.p = none → H Pn.c = none → Pen Pn H' → Q (.ref Pn.p) H'
theorem ok_pen (B : Bi mg) {f : Addr} {fd : FuncData} (D : Df K mg "_law_pen" s__law_pen f fd ["_law_script"]) : Cal P w K mg base "_law_pen" s__law_pen ["_law_script"] 1 (spPen K T) := by
  refine ⟨f, fd, D, D.F.ok sc__law_pen (fun vs H Q E h => ?_) (fun cdv A outer s H vs Q E hr h => ?_)⟩
  · obtain ⟨a, ns, rfl, _⟩ := h
    rfl
  · obtain ⟨sa, ns, rfl, hsq, k⟩ := h
    have h1 : Args none H [.ref sa] [.r (.ref sa)] := .cons (x := .r (.ref sa)) rfl (fun _ z => nomatch z) .nil
    have F0 := Fr.start (T := T) (po := none) (N := ["_law_script"]) (fun _ z => nomatch z) h1 (by rw [h1.len]; exact Nat.le_of_ble_eq_true rfl)
    refine ⟨_, (pss_one (ps_ret (pe_lst (pa_cons (pe_callTy call_list_of (by rfl) B.list PyProof.Rows.boot_list (pa_cons (pe_slice sl_list (pv 0) po_none (po_some pe_int)) pa_nil)) (pa_cons pe_int (pa_cons pe_int pa_nil)))))), ?_⟩
    unfold tRet tLst
    refine cons_of ((el_listK (el_slQ (i := 0) (ns := ns) rfl (fun H1 e => sql_keep e (fun _ => NP.none) hsq) eo_none (eo_some (ev_i (i := 63)))).k) _ H F0 _ fun a vs1 ds1 H1 e1 F1 n1 h1 r1 ec => ?_)
    have hn : ∃ ms : List Int, ds1 = ms.map PyData.int ∧ ms.length ≤ 63 := by
      refine ⟨(ns.drop (HT.sIx (ns.map PyData.int).length 0 none)).take (HT.sIx (ns.map PyData.int).length (ns.map PyData.int).length (.some 63) - HT.sIx (ns.map PyData.int).length 0 none), ?_, ?_⟩
      · rw [ec]
        unfold cutD
        rw [List.map_take, List.map_drop]
      · rw [List.length_take]
        refine Nat.le_trans (Nat.min_le_left _ _) ?_
        unfold HT.sIx
        simp
        omega
    obtain ⟨ms, em, hm⟩ := hn
    subst em
    refine ⟨small24 (n := 3) (by decide), fun p hp => ?_⟩
    have e2 : Ex T none H1 (upd H1 p (.lst [.ref a, .int 0, .int 0])) := Ex.new hp
    have hpa : a ≠ p := ne_of_none h1 hp
    refine k ⟨p, a, ms⟩ _ (e1.trans e2) (e1.dom p hp) n1 ⟨⟨0, 0, upd_same⟩, ?_, hm⟩
    show upd H1 p _ a = _
    rw [upd_ne hpa, h1, r1.ints]
end
end K22
/-! LB: houses drawn. -/
namespace K22
open PySem PySem.Spec L2 LamX
abbrev s__law_step_drawn : Stmt := topS 28
theorem sc__law_step_drawn : FnScope ["_law_pen_here", "_law_sizes", "_law_whens", "_law_cell", "_law_alike", "_law_kind", "_law_one", "_law_size"] ["_law_pen_here", "_law_sizes", "_law_whens"] (defScope s__law_step_drawn) := ⟨rfl, rfl, rfl, by decide +kernel, rfl, by decide +kernel, by decide +kernel⟩
abbrev s__law_nodes_drawn : Stmt := topS 29
theorem sc__law_nodes_drawn : FnScope ["_law_pen_here", "_law_sizes", "_law_nodes", "_law_found", "_law_index", "_law_cell", "_law_left", "_law_goals", "_law_value"] ["_law_pen_here", "_law_sizes", "_law_nodes"] (defScope s__law_nodes_drawn) := ⟨rfl, rfl, rfl, by decide +kernel, rfl, by decide +kernel, by decide +kernel⟩
abbrev s__law_house : Stmt := topS 30
theorem sc__law_house : FnScope ["_law_pen_here", "_law_sizes", "_law_nodes", "_law_deeds", "_law_questions", "_law_rows", "_law_lap", "_law_turn"] ["_law_pen_here", "_law_sizes", "_law_nodes", "_law_deeds"] (defScope s__law_house) := ⟨rfl, rfl, rfl, by decide +kernel, rfl, by decide +kernel, by decide +kernel⟩
abbrev s__law_small_house : Stmt := topS 31
theorem sc__law_small_house : FnScope ["_law_pen_here", "_law_sizes"] ["_law_pen_here"] (defScope s__law_small_house) := ⟨rfl, rfl, rfl, by decide +kernel, rfl, by decide +kernel, by decide +kernel⟩
abbrev s__law_three_house : Stmt := topS 43
theorem sc__law_three_house : FnScope ["_law_pen_here"] ["_law_pen_here"] (defScope s__law_three_house) := ⟨rfl, rfl, rfl, by decide +kernel, rfl, by decide +kernel, by decide +kernel⟩
abbrev s__law_unlike_house : Stmt := topS 47
theorem sc__law_unlike_house : FnScope ["_law_pen_here"] ["_law_pen_here"] (defScope s__law_unlike_house) := ⟨rfl, rfl, rfl, by decide +kernel, rfl, by decide +kernel, by decide +kernel⟩
abbrev s__law_prices : Stmt := topS 42
theorem sc__law_prices : FnScope ["_law_pen_here", "_law_cell"] ["_law_pen_here"] (defScope s__law_prices) := ⟨rfl, rfl, rfl, by decide +kernel, rfl, by decide +kernel, by decide +kernel⟩
section
variable {P : Program} {w : World} {K : PySem.W.Frag} {mg : Str → Option Value} {base : Heap} {T : List (Addr × Str)}
structure SzOk (sizes : List Nat) : Prop where
  s1 : 1 ≤ sizes.length
  s3 : sizes.length ≤ 3
  sz : ∀ z ∈ sizes, 2 ≤ z ∧ z ≤ 4
def spDrawn (T : List (Addr × Str)) (m : Nat) : Sp := SpP T (α := List Nat × Nat) (fun a => [.d (dNs a.1), .d (dN a.2)]) (fun a => SzOk a.1 ∧ a.2 < m) (fun a d => ∃ s, StepOk a.1 s ∧ s.dep ≤ a.2 + 1 ∧ d = encStep s)
theorem ok_drawn (B : Bi mg) {f : Addr} {fd : FuncData} (D : Df K mg "_law_step_drawn" s__law_step_drawn f fd ["_law_pen_here", "_law_sizes", "_law_whens"]) (C1 : Cal P w K mg base "_law_draw" s__law_draw ["_law_pen_here", "_law_many"] 2 (spDraw T)) (C2 : Cal P w K mg base "_law_one_of" s__law_one_of ["_law_pen_here", "_law_rows"] 3 (spOneOf T)) : ∀ m,
    FnOk P w K mg base CX0 (4 + m) f fd ["_law_pen_here", "_law_sizes", "_law_whens"] (spDrawn T m)
  | 0 => fn_none fun vs H Q E h => by
    obtain ⟨a, _, _, _, ⟨_, h⟩, _⟩ := h
    exact absurd h (Nat.not_lt_zero _)
  | m + 1 => by
    have G_step_drawn := ok_drawn B D C1 C2 m
    obtain ⟨fa, fda, D_draw, G_draw⟩ := C1
    obtain ⟨fb, fdb, D_one_of, G_one_of⟩ := C2
    have D_step_drawn := D
    refine D.F.ok (k := 4 + m) sc__law_step_drawn (fun vs H Q E h => ?_) (fun cdv A outer s H vs Q E hr h => ?_)
    · obtain ⟨a, P, h1, _⟩ := h
      exact h1.len
    · obtain ⟨⟨sz, n⟩, Pn, ⟨ha, hnm⟩, F0, k⟩ := SpP.ent (N := ["_law_pen_here", "_law_sizes", "_law_whens", "_law_cell", "_law_alike", "_law_kind", "_law_one", "_law_size"]) h (fun _ => Nat.le_of_ble_eq_true rfl)
      dsimp only at *
      refine ⟨_, (pss_cons (ps_set (i := 3) sc__law_step_drawn.nd rfl (Or.inr rfl) (pe_call G_draw (hr.mono (by omega)) (by rfl) D_draw.m D_draw.F.kp D_draw.b .nil pass0 (pa_cons (pv 0) (pa_cons (pe_callB call_len_seq (by rfl) B.len PySem.boot_len (pa_cons (pv 1) pa_nil)) pa_nil))))
      (pss_cons (ps_setLc (i := 4) (own := [("_law_one", 6), ("_law_size", 7)]) (g := gTup K 2 (gCons (gName 6) (gCons (gName 7) gNil))) rfl sc__law_step_drawn.nd rfl rfl (sw_true rfl rfl rfl (by decide +kernel)) (pi_enumT (by rfl) B.enumerate (pa_cons (pv 1) pa_nil)) (blkOk_by (N := ["_law_pen_here", "_law_sizes", "_law_whens", "_law_cell", "_law_alike", "_law_kind", "_law_one", "_law_size"]) (sc := defScope s__law_step_drawn) (by decide +kernel)) (fun _ _ _ _ _ => (pg_tup (by rfl) (pgs_cons (pg_name (i := 6) sc__law_step_drawn.nd rfl (Or.inl rfl)) (pgs_cons (pg_name (i := 7) sc__law_step_drawn.nd rfl (Or.inl rfl)) pgs_nil)))) (fun _ _ _ _ _ => (pts_one (PW.pt (pw_and (pt_cmpR op_ne (pv 6) (pv 3) (nomark _)) (pw_and1 (pt_cmpR op_eq (pv 7) (pe_ix (ixT K) (pv 1) (pv 3) (fun _ _ => rfl)) (nomark _))))))) (fun _ _ _ _ _ => (pv 6)))
      (pss_cons (ps_set (i := 5) sc__law_step_drawn.nd rfl (Or.inl rfl) (pe_call G_draw (hr.mono (by omega)) (by rfl) D_draw.m D_draw.F.kp D_draw.b .nil pass0 (pa_cons (pv 0) (pa_cons pe_int pa_nil))))
      (pss_cons (ps_if (PW.pt (pw_and (pt_cmpR op_gt (pv 2) pe_int (nomark _)) (pw_and1 (pt_cmpR op_lt (pv 5) pe_int (nomark _))))) (pss_one (ps_ret (pe_tup (pa_cons pe_str (pa_cons (pv 3) (pa_cons (pe_call G_draw (hr.mono (by omega)) (by rfl) D_draw.m D_draw.F.kp D_draw.b .nil pass0 (pa_cons (pv 0) (pa_cons (pe_ix ix_tup (pv 1) (pv 3) (fun _ _ => rfl)) pa_nil))) (pa_cons (pe_call G_step_drawn (hr.mono (by omega)) (by rfl) D_step_drawn.m D_step_drawn.F.kp D_step_drawn.b .nil pass0 (pa_cons (pv 0) (pa_cons (pv 1) (pa_cons (pe_op op_sub (pv 2) pe_int) pa_nil)))) pa_nil))))))) pss_nil)
      (pss_cons (ps_if (PW.pt (pw_and (pt_cmpR (op_neD hr.units) (pv 4) (pe_lst pa_nil) (nomark _)) (pw_and1 (pt_cmpR op_lt (pv 5) pe_int (nomark _))))) (pss_one (ps_ret (pe_tup (pa_cons (pe_ix ix_list (pe_lst (pa_cons pe_str (pa_cons pe_str pa_nil))) (pe_call G_draw (hr.mono (by omega)) (by rfl) D_draw.m D_draw.F.kp D_draw.b .nil pass0 (pa_cons (pv 0) (pa_cons pe_int pa_nil))) (fun _ _ => rfl)) (pa_cons (pv 3) (pa_cons (pe_call G_one_of (hr.mono (by omega)) (by rfl) D_one_of.m D_one_of.F.kp D_one_of.b .nil pass0 (pa_cons (pv 0) (pa_cons (pv 4) pa_nil))) pa_nil)))))) pss_nil)
      (pss_cons (ps_if (pt_cmpR op_eq (pv 5) pe_int (nomark _)) (pss_one (ps_ret (pe_tup (pa_cons pe_str (pa_cons (pv 3) (pa_cons (pe_call G_draw (hr.mono (by omega)) (by rfl) D_draw.m D_draw.F.kp D_draw.b .nil pass0 (pa_cons (pv 0) (pa_cons (pe_ix ix_tup (pv 1) (pv 3) (fun _ _ => rfl)) pa_nil))) pa_nil)))))) pss_nil)
      (pss_one (ps_ret (pe_tup (pa_cons pe_str (pa_cons (pv 3) (pa_cons (pe_op op_add pe_int (pe_call G_draw (hr.mono (by omega)) (by rfl) D_draw.m D_draw.F.kp D_draw.b .nil pass0 (pa_cons (pv 0) (pa_cons (pe_op op_sub (pe_ix ix_tup (pv 1) (pv 3) (fun _ _ => rfl)) pe_int) pa_nil)))) pa_nil)))))))))))), ?_⟩
      have s1 := ha.s1
      have s3 := ha.s3
      refine sq (st_set F0 (ev_dr (n := sz.length) rfl ((ev_lenT (ev_v rfl)).to (by rw [List.length_map])) s1 (by omega)) fun v1 d1 H1 e1 F1 ⟨c, hc, p1⟩ => ?_)
      subst p1
      dsimp only
      have hz := at_sz hc 0
      have hzb := ha.sz _ (List.mem_of_getElem? hz)
      refine sq (st_setL F1 ((el_compC (fun d b => ∃ (i x : Nat), d = .tuple [dN i, dN x] ∧ (b = true → i ≠ c ∧ x = sz.getD c 0)) (fun d e => ∃ (i x : Nat), d = .tuple [dN i, dN x] ∧ e = dN i) (ei_enum (xs := sz.map dN) (ev_v rfl)).c (tg_pair (by decide)) (fun ds e => ?_) (fun ds e d hd => ?_) (fun ds e d hd _ => ?_)).imp (Pm := fun l => l.length ≤ 3 ∧ ∀ d ∈ l, ∃ i : Nat, d = dN i ∧ i ≠ c ∧ sz[i]? = some (sz.getD c 0)) fun out ⟨ds, e, hR⟩ => ?_) fun a2 ds2 H2 e2 F2 n2 ⟨hal, hal2⟩ => ?_)
      · subst e
        refine ⟨by rw [enumD_len, List.length_map]; omega, fun d hd => ?_⟩
        obtain ⟨i, hi⟩ := List.mem_iff_getElem?.mp hd
        obtain ⟨x, e, _⟩ := enumD_get hi
        exact ⟨_, _, e⟩
      · subst e
        obtain ⟨i, hi⟩ := List.mem_iff_getElem?.mp hd
        obtain ⟨x, ed, hx⟩ := enumD_get hi
        rw [List.getElem?_map] at hx
        obtain ⟨z, hz', rfl⟩ := Option.map_eq_some_iff.mp hx
        rw [Nat.zero_add] at ed
        subst ed
        refine et_and (Pa := fun b => b = !decide ((i : Int) = (c : Int))) (Pb := fun b => b = decide ((z : Int) = (sz.getD c 0 : Nat))) (et (ev_neI (ev_v rfl) (ev_v rfl))) (fun _ => et (ev_eqI (ev_v rfl) (ev_ix (ev_v rfl) (ev_v rfl) (at_N hz)))) (fun _ => ⟨i, z, rfl, fun z => nomatch z⟩) (fun p b pb => ⟨i, z, rfl, fun eb => ⟨fun e => ?_, ?_⟩⟩)
        · rw [e] at p
          simp at p
        · rw [eb] at pb
          have := of_decide_eq_true pb.symm
          omega
      · subst e
        obtain ⟨i, hi⟩ := List.mem_iff_getElem?.mp hd
        obtain ⟨x, ed, hx⟩ := enumD_get hi
        rw [List.getElem?_map] at hx
        obtain ⟨z, hz', rfl⟩ := Option.map_eq_some_iff.mp hx
        rw [Nat.zero_add] at ed
        subst ed
        exact (ev_v (x := dN i) rfl).ev.imp fun e he => ⟨i, z, rfl, he⟩
      · subst e
        refine ⟨Nat.le_trans hR.le (by rw [enumD_len, List.length_map]; exact s3), fun e he => ?_⟩
        obtain ⟨d, hd, ⟨i, x, ed, hb⟩, i2, x2, ed2, ee⟩ := hR.mem e he
        obtain ⟨j, hj⟩ := List.mem_iff_getElem?.mp hd
        obtain ⟨x3, ed3, hx⟩ := enumD_get hj
        rw [List.getElem?_map] at hx
        obtain ⟨z, hz', rfl⟩ := Option.map_eq_some_iff.mp hx
        obtain ⟨h1, h2⟩ := hb rfl
        rw [ed3] at ed ed2
        injection ed with ed
        injection ed with e1 e2
        injection e2 with e2 _
        injection ed2 with ed2
        injection ed2 with e3 e4
        injection e4 with e4 _
        injection e1 with e1
        injection e2 with e2
        injection e3 with e3
        have ej : j = i := by omega
        have ei : i2 = i := by omega
        have ez : z = x := by omega
        subst ej
        subst ei
        exact ⟨i2, ee, h1, by rw [hz', ez, h2]⟩
      · dsimp only
        refine sq (st_set F2 (ev_dr (n := 7) rfl ev_i (by decide)) fun v3 d3 H3 e3 F3 ⟨kd, hkd, p3⟩ => ?_)
        subst p3
        dsimp only
        refine sq (st_if F3 (Pb := fun b => b = true → 0 < n) (et_and (Pa := fun b => b = decide ((0 : Int) < (n : Int))) (Pb := fun _ => True) (et (ev_gt (ev_v rfl) ev_i)) (fun _ => (et (ev_lt (ev_v rfl) ev_i)).imp fun _ _ => trivial) (fun _ z => nomatch z) (fun p b _ _ => by have := of_decide_eq_true p.symm; omega)) (fun H4 e4 F4 p4 => ?_) fun H4 e4 F4 _ => ?_)
        · have hn0 := p4 rfl
          refine st_ret F4 (ev_tupX (eu_cons ev_s.ev (eu_cons (ev_v rfl).ev (eu_cons (ev_dr (n := sz.getD c 0) rfl (ev_ix (ev_v rfl) (ev_v rfl) (at_N hz)) (by omega) (by omega)) (eu_cons (ev_p (args := fun a : List Nat × Nat => [.d (dNs a.1), .d (dN a.2)]) (sz, n - 1) (ea_r rfl (ea_c (ev_v rfl) (ea_c ((ev_sub (ev_v rfl) ev_i).to (by congr 1; omega)) ea_nil))) ⟨ha, by omega⟩) eu_nil)))) ?_) fun v d H5 e5 r5 ⟨ds, ed, d1, r1, q1, q2, d2, r2, q3, q4, d3, r3, q5, ⟨u, hu, q6⟩, d4, r4, q7, ⟨st, hs1, hs2, q8⟩, q9⟩ => ?_
          · rintro ds ⟨d1, r1, rfl, _, d2, r2, rfl, _, d3, r3, rfl, _, d4, r4, rfl, _, rfl⟩
            exact Nat.le_of_ble_eq_true rfl
          · refine k v d H5 e5 r5 ⟨.when c u st, ⟨hc, hs1⟩, ?_, ?_⟩
            · rw [Step.dep]
              omega
            · subst q9 q8 q7 q6 q5 q4 q3 q2 q1
              exact ed
        · dsimp only [tNext]
          refine sq (st_if F4 (Pb := fun b => b = true → ds2 ≠ []) (et_and (Pa := fun b => b = !ds2.isEmpty) (Pb := fun _ => True) ((etX (Pb := fun b => b = !ds2.isEmpty) ((ev_neL (ek_l rfl) fun ds e => ?_).imp fun d ⟨ds, e1, e2⟩ => ⟨_, e2, by rw [e1]⟩))) (fun _ => (et (ev_lt (ev_v (x := dN kd) rfl) ev_i)).imp fun _ _ => trivial) (fun _ z => nomatch z) (fun p b _ _ e => by rw [e] at p; cases p)) (fun H5 e5 F5 p5 => ?_) fun H5 e5 F5 _ => ?_)
          · rw [e]
            refine (sh_lst (n := 0) fun d hd => ?_).shaped
            obtain ⟨i, rfl, _⟩ := hal2 d hd
            exact sh_N _ _
          · have hne := p5 rfl
            refine st_ret F5 (ev_tupX (eu_cons (ev_ixKX (Pd := fun d => d = .str "copy" ∨ d = .str "swap") (el_lst (Pr := fun l => l = [.str "copy", .str "swap"]) (eu_c ev_s (eu_c ev_s eu_nil)) (fun ds e => by rw [e]; decide)).k (ev_dr (n := 2) rfl ev_i (by decide)) fun ds y e1 ⟨r, hr, ey⟩ => ?_) (eu_cons (ev_v rfl).ev (eu_cons (ev_oneK rfl (ek_l rfl) hne (by omega)) eu_nil))) ?_) fun v d H6 e6 r6 ⟨ds, ed, d1, r1, q1, q2, d2, r2, q3, q4, d3, r3, q5, q6, q7⟩ => ?_
            · subst e1
              match r, hr with
              | 0, _ => exact ⟨0, _, ey, rfl, .inl rfl⟩
              | 1, _ => exact ⟨1, _, ey, rfl, .inr rfl⟩
            · rintro ds ⟨d1, r1, rfl, _, d2, r2, rfl, _, d3, r3, rfl, _, rfl⟩
              exact Nat.le_of_ble_eq_true rfl
            · obtain ⟨i, ei, hi1, hi2⟩ := hal2 d3 q6
              subst q7 q5 q4 q3 q1 ei
              rcases q2 with rfl | rfl
              · exact k v d H6 e6 r6 ⟨.copy c i, ⟨_, hz, hi2⟩, by simp [Step.dep], ed⟩
              · exact k v d H6 e6 r6 ⟨.swap c i, ⟨_, hz, hi2, fun e => hi1 e.symm⟩, by simp [Step.dep], ed⟩
          · dsimp only [tNext]
            refine sq (st_if F5 (Pb := fun _ => True) ((et (ev_eqI (ev_v (x := dN kd) rfl) ev_i)).imp fun _ _ => trivial) (fun H6 e6 F6 _ => ?_) fun H6 e6 F6 _ => ?_)
            · refine st_ret F6 (ev_tupX (eu_cons ev_s.ev (eu_cons (ev_v rfl).ev (eu_cons (ev_dr (n := sz.getD c 0) rfl (ev_ix (ev_v rfl) (ev_v rfl) (at_N hz)) (by omega) (by omega)) eu_nil))) ?_) fun v d H7 e7 r7 ⟨ds, ed, d1, r1, q1, q2, d2, r2, q3, q4, d3, r3, q5, ⟨u, hu, q6⟩, q7⟩ => ?_
              · rintro ds ⟨d1, r1, rfl, _, d2, r2, rfl, _, d3, r3, rfl, _, rfl⟩
                exact Nat.le_of_ble_eq_true rfl
              · subst q7 q6 q5 q4 q3 q2 q1
                exact k v d H7 e7 r7 ⟨.set c u, ⟨_, hz, hu⟩, by simp [Step.dep], ed⟩
            · dsimp only [tNext]
              refine st_ret F6 (ev_tupX (eu_cons ev_s.ev (eu_cons (ev_v rfl).ev (eu_cons (ev_addP (U := fun z => 0 ≤ z) (ev_i.ip (R := fun z => z = 1) rfl) ((ev_dr (n := sz.getD c 0 - 1) rfl ((ev_sub (ev_ix (ev_v rfl) (ev_v rfl) (at_N hz)) ev_i).to (by congr 1; omega)) (by omega) (by omega)).imp fun d ⟨r, _, e⟩ => (⟨r, e, Int.natCast_nonneg r⟩ : IntP (fun z => 0 ≤ z) d)) (fun i j h1 h2 => by omega)) eu_nil))) ?_) fun v d H7 e7 r7 ⟨ds, ed, d1, r1, q1, q2, d2, r2, q3, q4, d3, r3, q5, ⟨u, q6, hu⟩, q7⟩ => ?_
              · rintro ds ⟨d1, r1, rfl, _, d2, r2, rfl, _, d3, r3, rfl, _, rfl⟩
                exact Nat.le_of_ble_eq_true rfl
              · subst q7 q6 q5 q4 q3 q2 q1
                exact k v d H7 e7 r7 ⟨.add c u.toNat, hc, by simp [Step.dep], by rw [ed, encStep, show dN u.toNat = .int u by show PyData.int _ = _; rw [Int.toNat_of_nonneg hu]]⟩
end
end K22
/-! LC: houses drawn, on. -/
namespace K22
open PySem PySem.Spec L2 LamX
theorem enc_list {α : Type} {enc : α → PyData} {Q : α → Prop} : ∀ {out : List PyData}, (∀ d ∈ out, ∃ g, Q g ∧ d = enc g) → ∃ gs : List α, out = gs.map enc ∧ ∀ g ∈ gs, Q g
  | [], _ => ⟨[], rfl, fun _ z => nomatch z⟩
  | d :: r, h => by
    obtain ⟨g, h1, h2⟩ := h d List.mem_cons_self
    obtain ⟨gs, h3, h4⟩ := enc_list fun e he => h e (List.mem_cons_of_mem _ he)
    refine ⟨g :: gs, by rw [h2, h3]; rfl, fun x hx => ?_⟩
    rcases List.mem_cons.mp hx with rfl | hx
    · exact h1
    · exact h4 x hx
section
variable {P : Program} {w : World} {K : PySem.W.Frag} {mg : Str → Option Value} {base : Heap} {T : List (Addr × Str)}
/-- [e for _ in range(n)], drawn -/
theorem el_range {α : Type} {enc : α → PyData} {Q : α → Prop} {po : Option PenD} {Hb : Hp} {gs : List (V × AV)} {env : List AV} {ta te : TE} {i : Nat} {Pn : Nat → Prop} (h : Ev T po Hb gs env ta fun d => ∃ n : Nat, Pn n ∧ d = dN n) (hl : ∀ n, Pn n → n < 16777216) (he : ∀ n k, Pn n → k < n → Ev T po Hb gs (env.set i (.d (dN k))) te fun d => ∃ g, Q g ∧ d = enc g) :
    EvL T po Hb gs env (tLc (iRng1 (tCons ta tNil)) (gName i) tYes te [i]) (fun out => ∃ l : List α, out = l.map enc ∧ Pn l.length ∧ ∀ g ∈ l, Q g) :=
  (el_compR (fun _ b => b = true) (fun _ e => ∃ g, Q g ∧ e = enc g) h (fun d ⟨n, p, e⟩ => ⟨n, e, hl n p⟩) (fun _ _ _ _ => et_yes) (fun n k ⟨n', p, e⟩ hk _ => he n k ((show n' = n by injection e with e; omega) ▸ p) hk)).imp fun out ⟨n, ⟨n', p, e⟩, hR⟩ => by
    have en : n = n' := by injection e with e; omega
    subst en
    obtain ⟨l, hl1, hl2⟩ := enc_list (enc := enc) (Q := Q) (out := out) fun d hd => by
      obtain ⟨_, _, _, q⟩ := hR.mem d hd
      exact q
    refine ⟨l, hl1, ?_, hl2⟩
    have z := pair_len hR.all
    rw [upto_len, hl1, List.length_map] at z
    rw [← z]
    exact p
theorem ev_eqII {po : Option PenD} {Hb : Hp} {gs : List (V × AV)} {env : List AV} {ta tb : TE} (ha : Ev T po Hb gs env ta isI) (hb : Ev T po Hb gs env tb isI) : Ev T po Hb gs env (tOp rEq ta tb) (fun d => ∃ b, d = .bool b ∧ True) := fun σ H F Q q => by
  refine ha σ H F _ fun z d1 H1 e1 F1 r1 ⟨i, p1⟩ => hb σ H1 F1 _ fun z' d2 H2 e2 F2 r2 ⟨j, p2⟩ => ?_
  subst p1
  subst p2
  obtain rfl := r1.i
  obtain rfl := r2.i
  exact ⟨rfl, q _ _ H2 (e1.trans e2) F2 (.bl _) ⟨_, rfl, trivial⟩⟩
def spNodes (T : List (Addr × Str)) : Sp := SpP T (α := List Nat × Nat) (fun a => [.d (dNs a.1), .d (dN a.2)]) (fun a => SzOk a.1 ∧ a.2 ≤ 1000) (fun a d => ∃ ns : List Node, ns.length = a.2 ∧ (∀ i n, ns[i]? = some n → NodeOk a.1 i a.2 n) ∧ d = .tuple (ns.map encNode))
theorem ok_nodes (B : Bi mg) {f : Addr} {fd : FuncData} (D : Df K mg "_law_nodes_drawn" s__law_nodes_drawn f fd ["_law_pen_here", "_law_sizes", "_law_nodes"]) (C1 : Cal P w K mg base "_law_draw" s__law_draw ["_law_pen_here", "_law_many"] 2 (spDraw T)) (C2 : Cal P w K mg base "_law_one_of" s__law_one_of ["_law_pen_here", "_law_rows"] 3 (spOneOf T)) :
    Cal P w K mg base "_law_nodes_drawn" s__law_nodes_drawn ["_law_pen_here", "_law_sizes", "_law_nodes"] 4 (spNodes T) := by
  obtain ⟨fa, fda, D_draw, G_draw⟩ := C1
  obtain ⟨fb, fdb, D_one_of, G_one_of⟩ := C2
  refine ⟨f, fd, D, D.F.ok sc__law_nodes_drawn (fun vs H Q E h => ?_) (fun cdv A outer s H vs Q E hr h => ?_)⟩
  · obtain ⟨a, P, h1, _⟩ := h
    exact h1.len
  · obtain ⟨⟨sz, m⟩, Pn, ⟨ha, hm⟩, F0, k⟩ := SpP.ent (N := ["_law_pen_here", "_law_sizes", "_law_nodes", "_law_found", "_law_index", "_law_cell", "_law_left", "_law_goals", "_law_value"]) h (fun _ => Nat.le_of_ble_eq_true rfl)
    dsimp only at *
    have s1 := ha.s1
    have s3 := ha.s3
    refine ⟨_, (pss_cons (ps_set (i := 3) sc__law_nodes_drawn.nd rfl (Or.inl rfl) (pe_lst pa_nil))
      (pss_cons (ps_for PassesOwn.never rfl (pi_range1 (by rfl) B.range (pa_cons (pv 2) pa_nil)) (pg_name (i := 4) sc__law_nodes_drawn.nd rfl (Or.inr rfl)) (pss_one (ps_if (PW.pt (pw_or (pt_cmpR op_lt (pe_op op_sub (pv 2) (pv 4)) pe_int (nomark _)) (pw_or1 (pt_cmpR op_eq (pe_call G_draw (hr.mono (by omega)) (by rfl) D_draw.m D_draw.F.kp D_draw.b .nil pass0 (pa_cons (pv 0) (pa_cons pe_int pa_nil))) pe_int (nomark _))))) (pss_one (ps_expr (pe_bm PySem.F.plainAttrs_list PySem.F.slot_list_append PySem.F.type_list_append mt_append (pv 3) (pa_cons (pe_tup (pa_cons pe_str (pa_cons (pe_call G_one_of (hr.mono (by omega)) (by rfl) D_one_of.m D_one_of.F.kp D_one_of.b .nil pass0 (pa_cons (pv 0) (pa_cons (pe_lst (pa_cons pe_int (pa_cons pe_int (pa_cons pe_int (pa_cons pe_int (pa_cons pe_int pa_nil)))))) pa_nil))) pa_nil))) pa_nil)))) (pss_cons (ps_asg (pe_tup (pa_cons (pe_call G_draw (hr.mono (by omega)) (by rfl) D_draw.m D_draw.F.kp D_draw.b .nil pass0 (pa_cons (pv 0) (pa_cons (pe_callB call_len_seq (by rfl) B.len PySem.boot_len (pa_cons (pv 1) pa_nil)) pa_nil))) (pa_cons (pe_op op_sub (pe_op op_sub (pv 2) (pv 4)) pe_int) pa_nil))) (pg_tup (by rfl) (pgs_cons (pg_name (i := 5) sc__law_nodes_drawn.nd rfl (Or.inl rfl)) (pgs_cons (pg_name (i := 6) sc__law_nodes_drawn.nd rfl (Or.inr rfl)) pgs_nil))))
      (pss_cons (ps_setLc (i := 7) (own := [("_law_value", 8)]) (g := gName 8) rfl sc__law_nodes_drawn.nd rfl rfl (sw_true rfl rfl rfl (by decide +kernel)) (pi_range1 (by rfl) B.range (pa_cons (pe_ix ix_tup (pv 1) (pv 5) (fun _ _ => rfl)) pa_nil)) (blkOk_by (N := ["_law_pen_here", "_law_sizes", "_law_nodes", "_law_found", "_law_index", "_law_cell", "_law_left", "_law_goals", "_law_value"]) (sc := defScope s__law_nodes_drawn) (by decide +kernel)) (fun _ _ _ _ _ => (pg_name (i := 8) sc__law_nodes_drawn.nd rfl (Or.inl rfl))) (fun _ _ _ _ _ => pts_nil) (fun _ _ _ _ _ => (pe_op op_add (pe_op op_add (pv 4) pe_int) (pe_call G_draw (hr.mono (by omega)) (by rfl) D_draw.m D_draw.F.kp D_draw.b .nil pass0 (pa_cons (pv 0) (pa_cons (pv 6) pa_nil))))))
      (pss_one (ps_expr (pe_bm PySem.F.plainAttrs_list PySem.F.slot_list_append PySem.F.type_list_append mt_append (pv 3) (pa_cons (pe_tup (pa_cons pe_str (pa_cons (pv 5) (pa_cons (pe_tupleOf (by rfl) B.tuple (pv 7)) pa_nil)))) pa_nil)))))))))
      (pss_one (ps_ret (pe_tupleOf (by rfl) B.tuple (pv 3)))))), ?_⟩
    refine sq (st_setL F0 (el_lst eu_nil (fun ds e => by rw [e]; decide)) fun a0 ds0 H2 e2 F2 n2 p2 => ?_)
    subst p2
    dsimp only
    refine sq (st_forR (fun n m' env' σ' H' => ∃ (ns : List Node) (x4 x5 x6 x7 x8 : AV), ns.length = m' ∧ (∀ i n, ns[i]? = some n → NodeOk sz i m n) ∧ env' = [.r (.ref Pn.p), .d (dNs sz), .d (dN m), .l (ns.map encNode), x4, x5, x6, x7, x8]) F2 (Pd := fun d => d = dN m) (ev_v rfl).ev (fun d e => ⟨m, e, by omega⟩) (fun n H' e p => ⟨[], _, _, _, _, _, rfl, fun i n h => by simp at h, rfl⟩) (fun n j env' σ' H' p hk F' hI => ?_) (fun n env' σ' H' p F' hI => ?_))
    · obtain ⟨ns, x4, x5, x6, x7, x8, hlen, hok, rfl⟩ := hI
      have enm : n = m := by have := PyData.int.inj p; omega
      subst enm
      refine gN F' (.int _) fun F3 => ?_
      have hns : ns.length < 16777216 := by omega
      refine st_if F3 (Pb := fun b => b = false → j + 3 ≤ n) (et_or (Pa := fun b => b = decide ((n : Int) - (j : Int) < 3)) (Pb := fun _ => True) (et (ev_lt (ev_sub (ev_v rfl) (ev_v rfl)) ev_i)) (fun _ => (etX (ev_eqII ((ev_dr (n := 6) rfl ev_i (by decide)).imp fun d ⟨r, _, e⟩ => ⟨_, e⟩) ev_i.isI)).imp fun _ _ => trivial) (fun _ z => nomatch z) (fun p b _ _ => by have := of_decide_eq_false p.symm; omega)) (fun H4 e4 F4 _ => ?_) fun H4 e4 F4 p4 => ?_
      · refine st_app F4 (i := 3) rfl (by rw [List.length_map]; exact hns) (ev_tupX (eu_cons ev_s.ev (eu_cons (ev_oneK (ds := [.int 0, .int 1, .int 2, .int 2, .int 9]) rfl (el_lst (eu_c ev_i (eu_c ev_i (eu_c ev_i (eu_c ev_i (eu_c ev_i eu_nil))))) (fun ds e => by rw [e]; decide)).k (fun z => nomatch z) (by decide)) eu_nil)) ?_) fun d5 H5 F5 tk ⟨ds, ed, d1, r1, q1, q2, d2, r2, q3, q4, q5⟩ => ?_
        · rintro ds ⟨d1, r1, rfl, _, d2, r2, rfl, _, rfl⟩
          exact Nat.le_of_ble_eq_true rfl
        · obtain ⟨a, ea⟩ : ∃ a : Nat, d2 = dN a := by
            rcases List.mem_cons.mp q4 with rfl | q4
            · exact ⟨0, rfl⟩
            rcases List.mem_cons.mp q4 with rfl | q4
            · exact ⟨1, rfl⟩
            rcases List.mem_cons.mp q4 with rfl | q4
            · exact ⟨2, rfl⟩
            rcases List.mem_cons.mp q4 with rfl | q4
            · exact ⟨2, rfl⟩
            rcases List.mem_cons.mp q4 with rfl | q4
            · exact ⟨9, rfl⟩
            · cases q4
          subst q5 ea q3 q2 q1 ed
          refine ⟨_, F5, ns ++ [.ans a], _, _, _, _, _, by rw [List.length_append, hlen]; rfl, fun i x hx => ?_, by rw [List.map_append]; rfl⟩
          by_cases hi : i < ns.length
          · rw [List.getElem?_append_left hi] at hx
            exact hok i x hx
          · rw [List.getElem?_append_right (Nat.le_of_not_lt hi)] at hx
            obtain ⟨h1, h2⟩ := List.getElem?_eq_some_iff.mp hx
            rw [List.length_singleton] at h1
            have : i - ns.length = 0 := by omega
            simp only [this] at h2
            rw [← h2]
            trivial
      · have hj := p4 rfl
        refine sq (st_set2X (Pd := fun x y => (∃ c : Nat, c < sz.length ∧ x = dN c) ∧ y = dN (n - j - 1)) F4 ((ev_tupX (eu_cons (ev_dr (n := sz.length) rfl ((ev_lenT (ev_v rfl)).to (by rw [List.length_map])) s1 (by omega)) (eu_c (ev_sub (ev_sub (ev_v rfl) (ev_v rfl)) ev_i) eu_nil)) ?_).imp fun d ⟨ds, ed, d1, r1, q1, q2, q3⟩ => ⟨d1, dN (n - j - 1), ?_, q2, rfl⟩) fun v1 v2 x y H5 e5 F5 ⟨⟨c, hc, p5⟩, p6⟩ => ?_)
        · rintro ds ⟨d1, r1, rfl, _, rfl⟩
          exact Nat.le_of_ble_eq_true rfl
        · subst q3
          rw [ed, q1]
          congr 4
          omega
        · subst p5
          subst p6
          dsimp only
          have hz := at_sz hc 0
          have hzb := ha.sz _ (List.mem_of_getElem? hz)
          refine sq (st_setL F5 (el_range (enc := dN) (Q := fun g => j < g ∧ g < n) (Pn := fun k => k = sz.getD c 0) ((ev_ix (ev_v rfl) (ev_v rfl) (at_N hz)).ev.imp fun d e => ⟨_, rfl, e⟩) (fun k e => by omega) (fun n2 k2 _ _ => (ev_addP (R := fun z => z = (j : Int) + 1) (S := fun z => 0 ≤ z ∧ z < n - j - 1) (U := fun z => (j : Int) < z ∧ z < n) ((ev_add (ev_v rfl) ev_i).ip rfl) ((ev_dr (n := n - j - 1) rfl (ev_v rfl) (by omega) (by omega)).imp fun d ⟨r, hr, e⟩ => (⟨r, e, by omega, by omega⟩ : IntP (fun z => 0 ≤ z ∧ z < n - j - 1) d)) (fun i j h1 h2 => by omega)).imp fun d ⟨z, e, h1, h2⟩ => ⟨z.toNat, ⟨by omega, by omega⟩, by rw [e]; congr 1; omega⟩)) fun a6 ds6 H6 e6 F6 n6 ⟨l, el, hl1, hl2⟩ => ?_)
          subst el
          dsimp only
          refine st_app F6 (i := 3) rfl (by rw [List.length_map]; exact hns) (ev_tupX (eu_cons ev_s.ev (eu_cons (ev_v rfl).ev (eu_cons (ev_tuple (ek_l rfl)) eu_nil))) ?_) fun d7 H7 F7 tk ⟨ds, ed, d1, r1, q1, q2, d2, r2, q3, q4, d3, r3, q5, ⟨ds8, q6, q7⟩, q8⟩ => ?_
          · rintro ds ⟨d1, r1, rfl, _, d2, r2, rfl, _, d3, r3, rfl, _, rfl⟩
            exact Nat.le_of_ble_eq_true rfl
          · subst q8 q7 q6 q5 q4 q3 q2 q1 ed
            refine ⟨_, F7, ns ++ [.look c l], _, _, _, _, _, by rw [List.length_append, hlen]; rfl, fun i x hx => ?_, by rw [List.map_append]; rfl⟩
            by_cases hi : i < ns.length
            · rw [List.getElem?_append_left hi] at hx
              exact hok i x hx
            · rw [List.getElem?_append_right (Nat.le_of_not_lt hi)] at hx
              obtain ⟨h1, h2⟩ := List.getElem?_eq_some_iff.mp hx
              rw [List.length_singleton] at h1
              have e0 : i - ns.length = 0 := by omega
              simp only [e0] at h2
              rw [← h2]
              have ei : i = j := by omega
              subst ei
              exact ⟨_, hz, hl1, hl2⟩
    · obtain ⟨ns, x4, x5, x6, x7, x8, hlen, hok, rfl⟩ := hI
      have enm : n = m := by have := PyData.int.inj p; omega
      subst enm
      exact st_ret F' ((ev_tuple (ek_l rfl)).imp fun d ⟨ds, e1, e2⟩ => ⟨ns, hlen, hok, by rw [e2, e1]⟩) k
def spHouse (T : List (Addr × Str)) : Sp := SpP T (α := List Nat × Nat × Nat) (fun a => [.d (dNs a.1), .d (dN a.2.1), .d (dN a.2.2)]) (fun a => SzOk a.1 ∧ a.1.foldl (· * ·) 1 ≤ 8 ∧ 1 ≤ a.2.1 ∧ a.2.1 ≤ 12 ∧ a.2.2 ≤ 6) (fun a d => ∃ h, HouseOk h ∧ h.sizes = a.1 ∧ d = encH h)
theorem ok_house (B : Bi mg) {f : Addr} {fd : FuncData} (D : Df K mg "_law_house" s__law_house f fd ["_law_pen_here", "_law_sizes", "_law_nodes", "_law_deeds"]) (C1 : Cal P w K mg base "_law_draw" s__law_draw ["_law_pen_here", "_law_many"] 2 (spDraw T)) (C2 : Cal P w K mg base "_law_step_drawn" s__law_step_drawn ["_law_pen_here", "_law_sizes", "_law_whens"] 8 (spDrawn T 4))
    (C3 : Cal P w K mg base "_law_nodes_drawn" s__law_nodes_drawn ["_law_pen_here", "_law_sizes", "_law_nodes"] 4 (spNodes T)) : Cal P w K mg base "_law_house" s__law_house ["_law_pen_here", "_law_sizes", "_law_nodes", "_law_deeds"] 9 (spHouse T) := by
  obtain ⟨fa, fda, D_draw, G_draw⟩ := C1
  obtain ⟨fb, fdb, D_step_drawn, G_step_drawn⟩ := C2
  obtain ⟨fc, fdc, D_nodes_drawn, G_nodes_drawn⟩ := C3
  refine ⟨f, fd, D, D.F.ok sc__law_house (fun vs H Q E h => ?_) (fun cdv A outer s H vs Q E hr h => ?_)⟩
  · obtain ⟨a, P, h1, _⟩ := h
    exact h1.len
  · obtain ⟨⟨sz, m, nd⟩, Pn, ⟨ha, hp, hm1, hm2, hnd⟩, F0, k⟩ := SpP.ent (N := ["_law_pen_here", "_law_sizes", "_law_nodes", "_law_deeds", "_law_questions", "_law_rows", "_law_lap", "_law_turn"]) h (fun _ => Nat.le_of_ble_eq_true rfl)
    dsimp only at *
    refine ⟨_, (pss_cons (ps_par (i := 4) (j := 5) rfl sc__law_house.nd rfl rfl (by decide) rfl rfl (pa_cons (pe_lst (pa_cons (pe_op op_mul (pe_call G_draw (hr.mono (by omega)) (by rfl) D_draw.m D_draw.F.kp D_draw.b .nil pass0 (pa_cons (pv 0) (pa_cons (pv 2) pa_nil))) (pe_call G_draw (hr.mono (by omega)) (by rfl) D_draw.m D_draw.F.kp D_draw.b .nil pass0 (pa_cons (pv 0) (pa_cons pe_int pa_nil)))) pa_nil)) (pa_cons (pe_lst pa_nil) pa_nil)) (by rfl))
      (pss_cons (ps_for PassesOwn.never rfl (pi_range1 (by rfl) B.range (pa_cons (pe_call G_draw (hr.mono (by omega)) (by rfl) D_draw.m D_draw.F.kp D_draw.b .nil pass0 (pa_cons (pv 0) (pa_cons pe_int pa_nil))) pa_nil)) (pg_name (i := 6) sc__law_house.nd rfl (Or.inl rfl)) (pss_one (ps_expr (pe_bm PySem.F.plainAttrs_list PySem.F.slot_list_append PySem.F.type_list_append mt_append (pv 4) (pa_cons (pe_call G_draw (hr.mono (by omega)) (by rfl) D_draw.m D_draw.F.kp D_draw.b .nil pass0 (pa_cons (pv 0) (pa_cons (pv 2) pa_nil))) pa_nil)))))
      (pss_cons (ps_for PassesOwn.never rfl (pi_range1 (by rfl) B.range (pa_cons (pv 3) pa_nil)) (pg_name (i := 6) sc__law_house.nd rfl (Or.inl rfl)) (pss_one (ps_expr (pe_bm PySem.F.plainAttrs_list PySem.F.slot_list_append PySem.F.type_list_append mt_append (pv 5) (pa_cons (pe_tupleOf (by rfl) B.tuple (pe_lc (own := [("_law_turn", 7)]) (g := gName 7) rfl sc__law_house.nd (pi_range1 (by rfl) B.range (pa_cons (pe_call G_draw (hr.mono (by omega)) (by rfl) D_draw.m D_draw.F.kp D_draw.b .nil pass0 (pa_cons (pv 0) (pa_cons pe_int pa_nil))) pa_nil)) (blkOk_by (N := ["_law_pen_here", "_law_sizes", "_law_nodes", "_law_deeds", "_law_questions", "_law_rows", "_law_lap", "_law_turn"]) (sc := defScope s__law_house) (by decide +kernel)) (fun _ _ _ _ _ => (pg_name (i := 7) sc__law_house.nd rfl (Or.inl rfl))) (fun _ _ _ _ _ => pts_nil) (fun _ _ _ _ _ => (pe_call G_step_drawn (hr.mono (by omega)) (by rfl) D_step_drawn.m D_step_drawn.F.kp D_step_drawn.b .nil pass0 (pa_cons (pv 0) (pa_cons (pv 1) (pa_cons pe_int pa_nil))))))) pa_nil)))))
      (pss_one (ps_ret (pe_tup (pa_cons (pv 1) (pa_cons (pe_call G_nodes_drawn (hr.mono (by omega)) (by rfl) D_nodes_drawn.m D_nodes_drawn.F.kp D_nodes_drawn.b .nil pass0 (pa_cons (pv 0) (pa_cons (pv 1) (pa_cons (pv 2) pa_nil)))) (pa_cons (pe_tupleOf (by rfl) B.tuple (pv 4)) (pa_cons (pe_tupleOf (by rfl) B.tuple (pv 5)) pa_nil)))))))))), ?_⟩
    refine sq (st_parLL (by decide) F0 (Pl := fun l => ∃ q : Nat, q < m ∧ l = [dN q]) ((el_lst (eu_cons (ev_mulP (R := fun z => 0 ≤ z ∧ z < m) (S := fun z => 0 ≤ z ∧ z < 2) (U := fun z => 0 ≤ z ∧ z < m) ((ev_dr (n := m) rfl (ev_v rfl) hm1 (by omega)).imp fun d ⟨r, hr, e⟩ => (⟨r, e, by omega, by omega⟩ : IntP (fun z => 0 ≤ z ∧ z < m) d)) ((ev_dr (n := 2) rfl ev_i (by decide)).imp fun d ⟨r, hr, e⟩ => (⟨r, e, by omega, by omega⟩ : IntP (fun z => 0 ≤ z ∧ z < 2) d)) (fun i j h1 h2 => ⟨.inl ⟨by omega, by omega⟩, ?_⟩)) eu_nil) (fun ds ⟨d, r, e, _, e2⟩ => by rw [e, e2]; exact Nat.le_of_ble_eq_true rfl)).imp fun l ⟨d, r, e, ⟨z, e2, e3, e4⟩, e5⟩ => ⟨z.toNat, by omega, by rw [e, e5, e2]; congr 2; omega⟩) (Pm := fun l => l = []) (el_lst eu_nil (fun ds e => by rw [e]; decide)) fun a0 b0 ds es H1 e1 F1 ⟨q0, hq0, p1⟩ p2 => ?_)
    · rcases (show j = 0 ∨ j = 1 by omega) with rfl | rfl
      · rw [Int.mul_zero]; omega
      · rw [Int.mul_one]; omega
    subst p1
    subst p2
    dsimp only
    refine sq (st_forR (Pd := fun d => ∃ n : Nat, n < 3 ∧ d = dN n) (fun n j env' σ' H' => ∃ (qs : List Nat) (x6 x7 : AV), qs.length = j + 1 ∧ (∀ q ∈ qs, q < m) ∧ env' = [.r (.ref Pn.p), .d (dNs sz), .d (dN m), .d (dN nd), .l (qs.map dN), .l [], x6, x7]) F1 (ev_dr (n := 3) rfl ev_i (by decide)) (fun d ⟨n, h, e⟩ => ⟨n, e, by omega⟩) (fun n H' e p => ⟨[q0], _, _, rfl, fun q hq => by rw [List.mem_singleton.mp hq]; exact hq0, rfl⟩) (fun n j env' σ' H' p hk F' hI => ?_) (fun n env' σ' H' p F' hI => ?_))
    · obtain ⟨qs, x6, x7, hlen, hqs, rfl⟩ := hI
      have hn3 : n < 3 := by
        obtain ⟨n', h, e⟩ := p
        have := PyData.int.inj e
        omega
      refine gN F' (.int _) fun F3 => ?_
      refine st_app F3 (i := 4) rfl (by rw [List.length_map]; omega) (ev_dr (n := m) rfl (ev_v rfl) hm1 (by omega)) fun d5 H5 F5 tk ⟨r, hr, e5⟩ => ?_
      subst e5
      refine ⟨_, F5, qs ++ [r], _, _, by rw [List.length_append, hlen]; rfl, fun q hq => ?_, by rw [List.map_append]; rfl⟩
      rcases List.mem_append.mp hq with hq | hq
      · exact hqs q hq
      · rw [List.mem_singleton.mp hq]
        exact hr
    · obtain ⟨qs, x6, x7, hlen, hqs, rfl⟩ := hI
      have hn3 : n < 3 := by
        obtain ⟨n', h, e⟩ := p
        have := PyData.int.inj e
        omega
      dsimp only
      refine sq (st_forR (Pd := fun d => d = dN nd) (fun n j env' σ' H' => ∃ (ds : List (List Step)) (x6 x7 : AV), ds.length = j ∧ (∀ d ∈ ds, d.length ≤ 6 ∧ ∀ s ∈ d, StepOk sz s ∧ s.dep ≤ 4) ∧ env' = [.r (.ref Pn.p), .d (dNs sz), .d (dN m), .d (dN nd), .l (qs.map dN), .l (ds.map encDeed), x6, x7]) F' (ev_v rfl).ev (fun d e => ⟨nd, e, by omega⟩) (fun n H' e p => ⟨[], _, _, rfl, fun _ z => (nomatch z), rfl⟩) (fun n2 j env2 σ2 H2 p2 hk2 F2 hI2 => ?_) (fun n2 env2 σ2 H2 p2 F2 hI2 => ?_))
      · obtain ⟨ds, x6, x7, hl2, hds, rfl⟩ := hI2
        have hn6 : n2 = nd := by have := PyData.int.inj p2; omega
        refine gN F2 (.int _) fun F3 => ?_
        refine st_app F3 (i := 5) (Pd := fun d => ∃ l : List Step, l.length < 4 ∧ (∀ s ∈ l, StepOk sz s ∧ s.dep ≤ 4) ∧ d = encDeed l) rfl (by rw [List.length_map]; omega) ((ev_tuple (el_range (enc := encStep) (Q := fun s => StepOk sz s ∧ s.dep ≤ 4) (Pn := fun k => k < 4) (ev_dr (n := 4) rfl ev_i (by decide)) (fun k e => by omega) (fun n k _ _ => (ev_p (args := fun a : List Nat × Nat => [.d (dNs a.1), .d (dN a.2)]) (sz, 3) (ea_r rfl (ea_c (ev_v rfl) (ea_c ev_i ea_nil))) ⟨ha, Nat.le_of_ble_eq_true rfl⟩).imp fun d ⟨s, h1, h2, e⟩ => ⟨s, ⟨h1, h2⟩, e⟩)).k).imp fun d ⟨ds, ⟨l, e1, e2, e3⟩, e4⟩ => ⟨l, e2, e3, by rw [e4, e1]⟩) fun d5 H5 F5 tk ⟨l, hl4, hls, e5⟩ => ?_
        subst e5
        refine ⟨_, F5, ds ++ [l], _, _, by rw [List.length_append, hl2]; rfl, fun d hd => ?_, by rw [List.map_append]; rfl⟩
        rcases List.mem_append.mp hd with hd | hd
        · exact hds d hd
        · rw [List.mem_singleton.mp hd]
          exact ⟨by omega, hls⟩
      · obtain ⟨ds, x6, x7, hl2, hds, rfl⟩ := hI2
        have hn6 : n2 = nd := by have := PyData.int.inj p2; omega
        dsimp only
        refine st_ret F2 (ev_tupX (eu_cons (ev_v rfl).ev (eu_cons (ev_p (args := fun a : List Nat × Nat => [.d (dNs a.1), .d (dN a.2)]) (sz, m) (ea_r rfl (ea_c (ev_v rfl) (ea_c (ev_v rfl) ea_nil))) ⟨ha, by dsimp only; omega⟩) (eu_cons (ev_tuple (ek_l rfl)) (eu_cons (ev_tuple (ek_l rfl)) eu_nil)))) ?_) fun v d H5 e5 r5 ⟨dd, ed, d1, r1, q1, q2, d2, r2, q3, ⟨ns, hn1, hn2, q4⟩, d3, r3, q5, ⟨ds7, q6, q7⟩, d4, r4, q8, ⟨ds8, q9, q10⟩, q11⟩ => ?_
        · rintro ds ⟨d1, r1, rfl, _, d2, r2, rfl, _, d3, r3, rfl, _, d4, r4, rfl, _, rfl⟩
          exact Nat.le_of_ble_eq_true rfl
        · subst q11 q10 q9 q8 q7 q6 q5 q4 q3 q2 q1
          refine k v d H5 e5 r5 ⟨⟨sz, ns, qs, ds⟩, ⟨ha.s1, ha.s3, ha.sz, hp, fun i n hi => ?_, by show ns.length ≤ 12; omega, by show 1 ≤ qs.length; omega, by show qs.length ≤ 3; omega, fun q hq => ?_, by show ds.length ≤ 6; omega, hds⟩, rfl, ed⟩
          · show NodeOk sz i ns.length n
            rw [hn1]
            exact hn2 i n hi
          · show q < ns.length
            rw [hn1]
            exact hqs q hq
/-- a small house -/
def HouseS (d : PyData) : Prop := ∃ h, HouseOk h ∧ d = encH h
theorem ev_house {Pn : PenD} {Hb : Hp} {gs : List (V × AV)} {env : List AV} {tz tn td : TE} {E : XK} {i : Nat} {Pz Pm Pd : PyData → Prop} (h0 : env[i]? = some (.r (.ref Pn.p))) (h1 : Ev T (.some Pn) Hb gs env tz Pz) (h2 : Ev T (.some Pn) Hb gs env tn Pm) (h3 : Ev T (.some Pn) Hb gs env td Pd)
    (hz : ∀ d, Pz d → ∃ sz, d = dNs sz ∧ SzOk sz ∧ sz.foldl (· * ·) 1 ≤ 8) (hm : ∀ d, Pm d → ∃ m : Nat, d = dN m ∧ 1 ≤ m ∧ m ≤ 12) (hd : ∀ d, Pd d → ∃ m : Nat, d = dN m ∧ m ≤ 6) : Ev T (.some Pn) Hb gs env (tCall (spHouse T) [] E (tCons (tVar i) (tCons tz (tCons tn (tCons td tNil))))) HouseS := by
  refine ev_draw (Pa := fun l => ∃ d1 d2 d3, l = [.r (.ref Pn.p), .d d1, .d d2, .d d3] ∧ Pz d1 ∧ Pm d2 ∧ Pd d3) (fun σ H F Q q => ?_) fun xs ⟨d1, d2, d3, e, p1, p2, p3⟩ => ?_
  · refine ⟨_, F.rf h0, (ea_cons h1 (ea_cons h2 (ea_cons h3 ea_nil))) σ H F _ fun vs xs H2 e2 F2 r2 ⟨d1, r1, e1, p1, d2, r2', e2', p2, d3, r3, e3, p3, e4⟩ => q _ _ H2 e2 F2 (.cons (x := .r _) rfl (fun _ z => nomatch z) r2) ⟨d1, d2, d3, by rw [e1, e2', e3, e4], p1, p2, p3⟩⟩
  · obtain ⟨sz, ez, h1, h2⟩ := hz d1 p1
    obtain ⟨m, em, h3, h4⟩ := hm d2 p2
    obtain ⟨n, en, h5⟩ := hd d3 p3
    exact ⟨(sz, m, n), by rw [e, ez, em, en], ⟨h1, h2, h3, h4, h5⟩, fun d ⟨h, ho, _, ed⟩ => ⟨h, ho, ed⟩⟩
theorem szk {sz : List Nat} (h : (decide (1 ≤ sz.length) && decide (sz.length ≤ 3) && sz.all (fun z => decide (2 ≤ z) && decide (z ≤ 4)) && decide (sz.foldl (· * ·) 1 ≤ 8)) = true) : SzOk sz ∧ sz.foldl (· * ·) 1 ≤ 8 := by
  simp only [Bool.and_eq_true, decide_eq_true_eq, List.all_eq_true] at h
  exact ⟨⟨h.1.1.1, h.1.1.2, h.1.2⟩, h.2⟩
def spHs (T : List (Addr × Str)) : Sp := SpP T (α := Unit) (fun _ => []) (fun _ => True) (fun _ d => HouseS d)
theorem ev_hs {Pn : PenD} {Hb : Hp} {gs : List (V × AV)} {env : List AV} {E : XK} {i : Nat} (h0 : env[i]? = some (.r (.ref Pn.p))) : Ev T (.some Pn) Hb gs env (tCall (spHs T) [] E (tCons (tVar i) tNil)) HouseS := ev_p () (ea_r h0 ea_nil) trivial
theorem ok_small (B : Bi mg) {f : Addr} {fd : FuncData} (D : Df K mg "_law_small_house" s__law_small_house f fd ["_law_pen_here"]) (C1 : Cal P w K mg base "_law_draw" s__law_draw ["_law_pen_here", "_law_many"] 2 (spDraw T)) (C2 : Cal P w K mg base "_law_one_of" s__law_one_of ["_law_pen_here", "_law_rows"] 3 (spOneOf T))
    (C3 : Cal P w K mg base "_law_house" s__law_house ["_law_pen_here", "_law_sizes", "_law_nodes", "_law_deeds"] 9 (spHouse T)) : Cal P w K mg base "_law_small_house" s__law_small_house ["_law_pen_here"] 10 (spHs T) := by
  obtain ⟨fa, fda, D_draw, G_draw⟩ := C1
  obtain ⟨fb, fdb, D_one_of, G_one_of⟩ := C2
  obtain ⟨fc, fdc, D_house, G_house⟩ := C3
  refine ⟨f, fd, D, D.F.ok sc__law_small_house (fun vs H Q E h => ?_) (fun cdv A outer s H vs Q E hr h => ?_)⟩
  · obtain ⟨a, P, h1, _⟩ := h
    exact h1.len
  · obtain ⟨_, Pn, _, F0, k⟩ := SpP.ent (N := ["_law_pen_here", "_law_sizes"]) h (fun _ => Nat.le_of_ble_eq_true rfl)
    refine ⟨_, (pss_cons (ps_set (i := 1) sc__law_small_house.nd rfl (Or.inl rfl) (pe_call G_one_of (hr.mono (by omega)) (by rfl) D_one_of.m D_one_of.F.kp D_one_of.b .nil pass0 (pa_cons (pv 0) (pa_cons (pe_lst (pa_cons (pe_tup (pa_cons pe_int pa_nil)) (pa_cons (pe_tup (pa_cons pe_int (pa_cons pe_int pa_nil))) (pa_cons (pe_tup (pa_cons pe_int (pa_cons pe_int pa_nil))) (pa_cons (pe_tup (pa_cons pe_int pa_nil)) (pa_cons (pe_tup (pa_cons pe_int pa_nil)) pa_nil)))))) pa_nil))))
      (pss_one (ps_ret (pe_call G_house (hr.mono (by omega)) (by rfl) D_house.m D_house.F.kp D_house.b .nil pass0 (pa_cons (pv 0) (pa_cons (pv 1) (pa_cons (pe_op op_add pe_int (pe_call G_draw (hr.mono (by omega)) (by rfl) D_draw.m D_draw.F.kp D_draw.b .nil pass0 (pa_cons (pv 0) (pa_cons pe_int pa_nil)))) (pa_cons (pe_call G_draw (hr.mono (by omega)) (by rfl) D_draw.m D_draw.F.kp D_draw.b .nil pass0 (pa_cons (pv 0) (pa_cons pe_int pa_nil))) pa_nil)))))))), ?_⟩
    refine sq (st_set F0 (ev_oneK (ds := [dNs [2], dNs [2, 2], dNs [2, 2], dNs [3], dNs [4]]) rfl (el_lst (eu_c (ev_tup (eu_c ev_i eu_nil)) (eu_c (ev_tup (eu_c ev_i (eu_c ev_i eu_nil))) (eu_c (ev_tup (eu_c ev_i (eu_c ev_i eu_nil))) (eu_c (ev_tup (eu_c ev_i eu_nil)) (eu_c (ev_tup (eu_c ev_i eu_nil)) eu_nil))))) (fun ds e => by rw [e]; exact Nat.le_of_ble_eq_true rfl)).k (fun z => nomatch z) (by decide)) fun v1 d1 H1 e1 F1 p1 => ?_)
    dsimp only
    refine st_ret F1 (ev_house rfl (ev_v (x := d1) rfl).ev (ev_addP (R := fun z => z = 3) (S := fun z => 0 ≤ z ∧ z < 4) (U := fun z => 1 ≤ z ∧ z ≤ 12) (ev_i.ip rfl) ((ev_dr (n := 4) rfl ev_i (by decide)).imp fun d ⟨r, hr, e⟩ => (⟨r, e, by omega, by omega⟩ : IntP (fun z => 0 ≤ z ∧ z < 4) d)) (fun i j h1 h2 => by omega)) (ev_dr (n := 3) rfl ev_i (by decide)) (fun d e => ?_) (fun d ⟨z, e, h1, h2⟩ => ⟨z.toNat, by rw [e]; congr 1; omega, by omega, by omega⟩) (fun d ⟨r, hr, e⟩ => ⟨r, e, by omega⟩)) k
    subst e
    rcases List.mem_cons.mp p1 with rfl | p1
    · exact ⟨_, rfl, szk (by decide)⟩
    rcases List.mem_cons.mp p1 with rfl | p1
    · exact ⟨_, rfl, szk (by decide)⟩
    rcases List.mem_cons.mp p1 with rfl | p1
    · exact ⟨_, rfl, szk (by decide)⟩
    rcases List.mem_cons.mp p1 with rfl | p1
    · exact ⟨_, rfl, szk (by decide)⟩
    rcases List.mem_cons.mp p1 with rfl | p1
    · exact ⟨_, rfl, szk (by decide)⟩
    · cases p1
theorem ok_three {f : Addr} {fd : FuncData} (D : Df K mg "_law_three_house" s__law_three_house f fd ["_law_pen_here"]) (C3 : Cal P w K mg base "_law_house" s__law_house ["_law_pen_here", "_law_sizes", "_law_nodes", "_law_deeds"] 9 (spHouse T)) : Cal P w K mg base "_law_three_house" s__law_three_house ["_law_pen_here"] 10 (spHs T) := by
  obtain ⟨fc, fdc, D_house, G_house⟩ := C3
  refine ⟨f, fd, D, D.F.ok sc__law_three_house (fun vs H Q E h => ?_) (fun cdv A outer s H vs Q E hr h => ?_)⟩
  · obtain ⟨a, P, h1, _⟩ := h
    exact h1.len
  · obtain ⟨_, Pn, _, F0, k⟩ := SpP.ent (N := ["_law_pen_here"]) h (fun _ => Nat.le_of_ble_eq_true rfl)
    refine ⟨_, (pss_one (ps_ret (pe_call G_house (hr.mono (by omega)) (by rfl) D_house.m D_house.F.kp D_house.b .nil pass0 (pa_cons (pv 0) (pa_cons (pe_tup (pa_cons pe_int (pa_cons pe_int (pa_cons pe_int pa_nil)))) (pa_cons pe_int (pa_cons pe_int pa_nil))))))), ?_⟩
    exact st_ret F0 (ev_house rfl (ev_tup (eu_c ev_i (eu_c ev_i (eu_c ev_i eu_nil)))).ev ev_i.ev ev_i.ev (fun d e => ⟨[2, 2, 2], e, szk (by decide)⟩) (fun d e => ⟨5, e, by decide, by decide⟩) (fun d e => ⟨1, e, by decide⟩)) k
theorem ok_unlike {f : Addr} {fd : FuncData} (D : Df K mg "_law_unlike_house" s__law_unlike_house f fd ["_law_pen_here"]) (C1 : Cal P w K mg base "_law_draw" s__law_draw ["_law_pen_here", "_law_many"] 2 (spDraw T)) (C3 : Cal P w K mg base "_law_house" s__law_house ["_law_pen_here", "_law_sizes", "_law_nodes", "_law_deeds"] 9 (spHouse T)) :
    Cal P w K mg base "_law_unlike_house" s__law_unlike_house ["_law_pen_here"] 10 (spHs T) := by
  obtain ⟨fa, fda, D_draw, G_draw⟩ := C1
  obtain ⟨fc, fdc, D_house, G_house⟩ := C3
  refine ⟨f, fd, D, D.F.ok sc__law_unlike_house (fun vs H Q E h => ?_) (fun cdv A outer s H vs Q E hr h => ?_)⟩
  · obtain ⟨a, P, h1, _⟩ := h
    exact h1.len
  · obtain ⟨_, Pn, _, F0, k⟩ := SpP.ent (N := ["_law_pen_here"]) h (fun _ => Nat.le_of_ble_eq_true rfl)
    refine ⟨_, (pss_one (ps_ret (pe_call G_house (hr.mono (by omega)) (by rfl) D_house.m D_house.F.kp D_house.b .nil pass0 (pa_cons (pv 0) (pa_cons (pe_ix ix_list (pe_lst (pa_cons (pe_tup (pa_cons pe_int (pa_cons pe_int pa_nil))) (pa_cons (pe_tup (pa_cons pe_int (pa_cons pe_int pa_nil))) (pa_cons (pe_tup (pa_cons pe_int (pa_cons pe_int pa_nil))) pa_nil)))) (pe_call G_draw (hr.mono (by omega)) (by rfl) D_draw.m D_draw.F.kp D_draw.b .nil pass0 (pa_cons (pv 0) (pa_cons pe_int pa_nil))) (fun _ _ => rfl)) (pa_cons pe_int (pa_cons pe_int pa_nil))))))), ?_⟩
    refine st_ret F0 (ev_house rfl (ev_ixKX (Pd := fun d => ∃ sz, d = dNs sz ∧ SzOk sz ∧ sz.foldl (· * ·) 1 ≤ 8) (el_lst (Pr := fun l => l = [dNs [2, 3], dNs [3, 2], dNs [2, 4]]) (eu_c (ev_tup (eu_c ev_i (eu_c ev_i eu_nil))) (eu_c (ev_tup (eu_c ev_i (eu_c ev_i eu_nil))) (eu_c (ev_tup (eu_c ev_i (eu_c ev_i eu_nil))) eu_nil))) (fun ds e => by rw [e]; exact Nat.le_of_ble_eq_true rfl)).k (ev_dr (n := 3) rfl ev_i (by decide)) fun ds y e1 ⟨r, hr, ey⟩ => ?_) ev_i.ev ev_i.ev (fun d e => e) (fun d e => ⟨5, e, by decide, by decide⟩) (fun d e => ⟨1, e, by decide⟩)) k
    subst e1
    match r, hr with
    | 0, _ => exact ⟨0, _, ey, rfl, _, rfl, szk (by decide)⟩
    | 1, _ => exact ⟨1, _, ey, rfl, _, rfl, szk (by decide)⟩
    | 2, _ => exact ⟨2, _, ey, rfl, _, rfl, szk (by decide)⟩
def spPrices (T : List (Addr × Str)) : Sp := SpP T (α := Unit) (fun _ => []) (fun _ => True) (fun _ d => ∃ cs : List Nat, cs.length = 3 ∧ d = dNs cs)
theorem ok_prices (B : Bi mg) {f : Addr} {fd : FuncData} (D : Df K mg "_law_prices" s__law_prices f fd ["_law_pen_here"]) (C2 : Cal P w K mg base "_law_one_of" s__law_one_of ["_law_pen_here", "_law_rows"] 3 (spOneOf T)) : Cal P w K mg base "_law_prices" s__law_prices ["_law_pen_here"] 4 (spPrices T) := by
  obtain ⟨fb, fdb, D_one_of, G_one_of⟩ := C2
  refine ⟨f, fd, D, D.F.ok sc__law_prices (fun vs H Q E h => ?_) (fun cdv A outer s H vs Q E hr h => ?_)⟩
  · obtain ⟨a, P, h1, _⟩ := h
    exact h1.len
  · obtain ⟨_, Pn, _, F0, k⟩ := SpP.ent (N := ["_law_pen_here", "_law_cell"]) h (fun _ => Nat.le_of_ble_eq_true rfl)
    refine ⟨_, (pss_one (ps_ret (pe_tupleOf (by rfl) B.tuple (pe_lc (own := [("_law_cell", 1)]) (g := gName 1) rfl sc__law_prices.nd (pi_range1 (by rfl) B.range (pa_cons pe_int pa_nil)) (blkOk_by (N := ["_law_pen_here", "_law_cell"]) (sc := defScope s__law_prices) (by decide +kernel)) (fun _ _ _ _ _ => (pg_name (i := 1) sc__law_prices.nd rfl (Or.inl rfl))) (fun _ _ _ _ _ => pts_nil) (fun _ _ _ _ _ => (pe_call G_one_of (hr.mono (by omega)) (by rfl) D_one_of.m D_one_of.F.kp D_one_of.b .nil pass0 (pa_cons (pv 0) (pa_cons (pe_lst (pa_cons pe_int (pa_cons pe_int (pa_cons pe_int (pa_cons pe_int (pa_cons pe_int pa_nil)))))) pa_nil)))))))), ?_⟩
    refine st_ret F0 ((ev_tuple (el_range (enc := dN) (Q := fun _ => True) (Pn := fun n => n = 3) (ev_i.ev.imp fun d e => ⟨3, rfl, e⟩) (fun n e => by omega) (fun n k2 _ _ => (ev_oneK (ds := [dN 1, dN 1, dN 2, dN 3, dN 9]) rfl (el_lst (eu_c ev_i (eu_c ev_i (eu_c ev_i (eu_c ev_i (eu_c ev_i eu_nil))))) (fun ds e => by rw [e]; exact Nat.le_of_ble_eq_true rfl)).k (fun z => nomatch z) (by decide)).imp fun d hd => ?_)).k).imp fun d ⟨ds, ⟨l, e1, e2, _⟩, e3⟩ => ⟨l, e2, by rw [e3, e1]⟩) k
    rcases List.mem_cons.mp hd with rfl | hd
    · exact ⟨1, trivial, rfl⟩
    rcases List.mem_cons.mp hd with rfl | hd
    · exact ⟨1, trivial, rfl⟩
    rcases List.mem_cons.mp hd with rfl | hd
    · exact ⟨2, trivial, rfl⟩
    rcases List.mem_cons.mp hd with rfl | hd
    · exact ⟨3, trivial, rfl⟩
    rcases List.mem_cons.mp hd with rfl | hd
    · exact ⟨9, trivial, rfl⟩
    · cases hd
end
end K22
/-! LD: contents, deeds, answers, as the law reckons them. -/
namespace K22
open PySem PySem.Spec L2 LamX
abbrev s__law_contents : Stmt := topS 32
theorem sc__law_contents : FnScope ["_law_house_here", "_law_found", "_law_size", "_law_rows", "_law_row", "_law_value"] ["_law_house_here"] (defScope s__law_contents) := ⟨rfl, rfl, rfl, by decide +kernel, rfl, by decide +kernel, by decide +kernel⟩
abbrev s__law_done : Stmt := topS 33
theorem sc__law_done : FnScope ["_law_house_here", "_law_deed", "_law_content", "_law_cells", "_law_first", "_law_step"] ["_law_house_here", "_law_deed", "_law_content"] (defScope s__law_done) := ⟨rfl, rfl, rfl, by decide +kernel, rfl, by decide +kernel, by decide +kernel⟩
abbrev s__law_answered : Stmt := topS 34
theorem sc__law_answered : FnScope ["_law_house_here", "_law_question", "_law_content", "_law_index", "_law_seen", "_law_cell", "_law_goals"] ["_law_house_here", "_law_question", "_law_content"] (defScope s__law_answered) := ⟨rfl, rfl, rfl, by decide +kernel, rfl, by decide +kernel, by decide +kernel⟩
abbrev s__law_sure : Stmt := topS 35
theorem sc__law_sure : FnScope ["_law_house_here", "_law_question", "_law_some", "_law_found", "_law_content"] ["_law_house_here", "_law_question", "_law_some"] (defScope s__law_sure) := ⟨rfl, rfl, rfl, by decide +kernel, rfl, by decide +kernel, by decide +kernel⟩
abbrev s__law_put : Stmt := topS 44
theorem sc__law_put : FnScope ["_law_content", "_law_cell", "_law_value"] ["_law_content", "_law_cell", "_law_value"] (defScope s__law_put) := ⟨rfl, rfl, rfl, by decide +kernel, rfl, by decide +kernel, by decide +kernel⟩
section
variable {P : Program} {w : World} {K : PySem.W.Frag} {mg : Str → Option Value} {base : Heap} {T : List (Addr × Str)}
/-- a list goes from one name to another (the first is told no more) -/
theorem st_mv {po : Option PenD} {Hb : Hp} {gs : List (V × AV)} {env : List AV} {H : Hp} {σ : L2.St} {D : Ends} {i j : Nat} {xs : List PyData} (F : Fr T po Hb gs env H σ) (hij : i ≠ j) (hj : env[j]? = some (.l xs)) (q : ∀ a, Fr T po Hb gs ((env.set j .u).set i (.l xs)) H (σ.set i (some (.ref a))) → D.nx (σ.set i (some (.ref a))) H) : tAsg (tVar j) (gName i) D σ H := by
  obtain ⟨a, vs, h1, h0, h2, h3⟩ := F.lst hj
  refine ⟨.ref a, h1, q a ?_⟩
  have hlt := (List.getElem?_eq_some_iff.mp h1).1
  have F2 : Fr T po Hb gs (env.set j .u) H (σ.set j (some (.ref a))) := F.setU
  have es : σ.set j (some (.ref a)) = σ := by
    refine List.ext_getElem? fun k => ?_
    by_cases e : j = k
    · subst e
      rw [List.getElem?_set_self hlt, h1]
    · rw [List.getElem?_set_ne e]
  rw [es] at F2
  refine F2.setL h0 h2 h3 ⟨fun k ys hk hs => ?_, fun g hg ⟨ys, ey⟩ eg => ?_⟩
  · by_cases e : j = k
    · subst e
      rw [List.getElem?_set_self (by rw [F.len]; exact hlt)] at hk
      cases hk
    · rw [List.getElem?_set_ne e] at hk
      exact F.sep k j a ys xs (fun z => e z.symm) hk hj hs h1
  · exact (F.gh g hg).2 j a xs ys eg ey hj h1
/-! ### contents -/
def stepCs (z : Nat) (f : List Con) : List Con := f.flatMap fun x => (List.range z).map fun v => x ++ [v]
def contC (sizes : List Nat) : List Con := sizes.foldl (fun f z => stepCs z f) [[]]
theorem stepCs_len (z : Nat) (f : List Con) : (stepCs z f).length = f.length * z := by
  unfold stepCs
  induction f with
  | nil => simp
  | cons x r ih => rw [List.flatMap_cons, List.length_append, List.length_map, List.length_range, ih, List.length_cons, Nat.succ_mul]; omega
theorem foldCs_len : ∀ (l : List Nat) (f : List Con), (l.foldl (fun f z => stepCs z f) f).length = f.length * l.foldr (· * ·) 1
  | [], f => by simp
  | z :: r, f => by
    show (r.foldl (fun f z => stepCs z f) (stepCs z f)).length = f.length * (z * r.foldr (· * ·) 1)
    rw [foldCs_len r, stepCs_len, Nat.mul_assoc]
theorem take_prod {l : List Nat} (hz : ∀ z ∈ l, 1 ≤ z) : ∀ n, (l.take n).foldr (· * ·) 1 ≤ l.foldr (· * ·) 1 := by
  induction l with
  | nil => intro n; simp
  | cons z r ih =>
    intro n
    cases n with
    | zero =>
      show 1 ≤ z * r.foldr (· * ·) 1
      have h1 := hz z List.mem_cons_self
      have h2 := ih (fun y hy => hz y (List.mem_cons_of_mem _ hy)) 0
      have h2' : 1 ≤ r.foldr (· * ·) 1 := h2
      exact Nat.mul_le_mul h1 h2'
    | succ n =>
      show z * (r.take n).foldr (· * ·) 1 ≤ z * r.foldr (· * ·) 1
      exact Nat.mul_le_mul_left z (ih (fun y hy => hz y (List.mem_cons_of_mem _ hy)) n)
theorem cont_few {h : House} (ho : HouseOk h) (n : Nat) : (contC (h.sizes.take n)).length ≤ 8 := by
  unfold contC
  rw [foldCs_len]
  have h1 := take_prod (l := h.sizes) (fun z hz => by have := ho.sz z hz; omega) n
  have h2 := ho.prod
  rw [foldlr] at h2
  show 1 * _ ≤ 8
  omega
theorem con_snoc {l : List Nat} {y : Con} {v z : Nat} (h : ConOk l y) (hv : v < z) : ConOk (l ++ [z]) (y ++ [v]) := by
  refine ⟨by rw [List.length_append, List.length_append, h.1]; rfl, fun i u w hu hw => ?_⟩
  by_cases hi : i < y.length
  · rw [List.getElem?_append_left hi] at hu
    rw [List.getElem?_append_left (by rw [← h.1]; exact hi)] at hw
    exact h.2 i u w hu hw
  · rw [List.getElem?_append_right (Nat.le_of_not_lt hi)] at hu
    rw [List.getElem?_append_right (by rw [← h.1]; exact Nat.le_of_not_lt hi), ← h.1] at hw
    obtain ⟨h1, h2⟩ := List.getElem?_eq_some_iff.mp hu
    rw [List.length_singleton] at h1
    have e0 : i - y.length = 0 := by omega
    rw [e0] at hu hw
    cases hu
    cases hw
    exact hv
theorem mem_stepCs {z : Nat} {f : List Con} {x : Con} : x ∈ stepCs z f ↔ ∃ y ∈ f, ∃ v, v < z ∧ x = y ++ [v] := by
  unfold stepCs
  rw [List.mem_flatMap]
  constructor
  · rintro ⟨y, hy, hx⟩
    obtain ⟨v, hv, rfl⟩ := List.mem_map.mp hx
    exact ⟨y, hy, v, List.mem_range.mp hv, rfl⟩
  · rintro ⟨y, hy, v, hv, rfl⟩
    exact ⟨y, hy, List.mem_map.mpr ⟨v, List.mem_range.mpr hv, rfl⟩⟩
theorem stepCs_nd {z : Nat} : ∀ {f : List Con}, f.Nodup → (stepCs z f).Nodup
  | [], _ => List.Pairwise.nil
  | x :: r, h => by
    obtain ⟨h1, h2⟩ := List.nodup_cons.mp h
    have ih := stepCs_nd (z := z) h2
    have e : stepCs z (x :: r) = ((List.range z).map fun v => x ++ [v]) ++ stepCs z r := by unfold stepCs; rw [List.flatMap_cons]
    rw [e, List.nodup_append]
    refine ⟨?_, ih, fun a ha b hb e => ?_⟩
    · rw [List.nodup_iff_pairwise_ne, List.pairwise_map]
      refine List.Pairwise.imp (fun {a b} hab e => hab ?_) (List.nodup_iff_pairwise_ne.mp (List.nodup_range (n := z)))
      have := List.append_cancel_left e
      injection this
    · obtain ⟨v, _, rfl⟩ := List.mem_map.mp ha
      obtain ⟨y, hy, u, _, rfl⟩ := mem_stepCs.mp hb
      have := List.append_inj_left' e rfl
      exact h1 (this ▸ hy)
theorem cont_ok (sizes : List Nat) : ∀ n, n ≤ sizes.length → (∀ x ∈ contC (sizes.take n), ConOk (sizes.take n) x) ∧ (contC (sizes.take n)).Nodup
  | 0, _ => ⟨fun x hx => by
      have e : x = [] := List.mem_singleton.mp hx
      subst e
      exact ⟨rfl, fun i v z h _ => by simp at h⟩, List.nodup_cons.mpr ⟨(fun z => nomatch z), List.Pairwise.nil⟩⟩
  | n + 1, hn => by
    obtain ⟨i1, i2⟩ := cont_ok sizes n (by omega)
    have hz : sizes[n]? = some sizes[n] := List.getElem?_eq_getElem (by omega)
    have e : contC (sizes.take (n + 1)) = stepCs sizes[n] (contC (sizes.take n)) := by
      rw [take_snoc hz]
      unfold contC
      rw [List.foldl_append]
      rfl
    rw [e]
    refine ⟨fun x hx => ?_, stepCs_nd i2⟩
    obtain ⟨y, hy, v, hv, rfl⟩ := mem_stepCs.mp hx
    rw [take_snoc hz]
    exact con_snoc (i1 y hy) hv
theorem cont_set {h : House} (ho : HouseOk h) : SetOk h (contC h.sizes) := by
  have := cont_ok h.sizes h.sizes.length (Nat.le_refl _)
  rw [List.take_length] at this
  refine ⟨fun e => ?_, this.1, this.2⟩
  have l := foldCs_len h.sizes [[]]
  have e2 : (contC h.sizes).length = 0 := by rw [e]; rfl
  unfold contC at e2
  rw [e2] at l
  have h1 := take_prod (l := h.sizes) (fun z hz => by have := ho.sz z hz; omega) 0
  have h2 : 1 ≤ h.sizes.foldr (· * ·) 1 := h1
  have l2 : 0 = 1 * h.sizes.foldr (· * ·) 1 := l
  omega
def spContents (T : List (Addr × Str)) : Sp := SpL T (α := House) (fun a => [.d (encH a)]) (fun a => HouseOk a) (fun a ds => ds = (contC a.sizes).map encC)
theorem ok_contents (B : Bi mg) {f : Addr} {fd : FuncData} (D : Df K mg "_law_contents" s__law_contents f fd ["_law_house_here"]) : Cal P w K mg base "_law_contents" s__law_contents ["_law_house_here"] 1 (spContents T) := by
  refine ⟨f, fd, D, D.F.ok sc__law_contents (fun vs H Q E h => ?_) (fun cdv A outer s H vs Q E hr h => ?_)⟩
  · obtain ⟨a, h1, _⟩ := h
    exact h1.len
  · obtain ⟨h, ho, F0, k⟩ := SpL.ent (N := ["_law_house_here", "_law_found", "_law_size", "_law_rows", "_law_row", "_law_value"]) h (fun _ => Nat.le_of_ble_eq_true rfl)
    refine ⟨_, (pss_cons (ps_set (i := 1) sc__law_contents.nd rfl (Or.inl rfl) (pe_lst (pa_cons (pe_tup pa_nil) pa_nil)))
      (pss_cons (ps_for PassesOwn.never rfl (pi_tup (pe_ix ix_tup (pv 0) pe_int (fun _ _ => rfl))) (pg_name (i := 2) sc__law_contents.nd rfl (Or.inl rfl)) (pss_cons (ps_set (i := 3) sc__law_contents.nd rfl (Or.inl rfl) (pe_lst pa_nil))
      (pss_cons (ps_for PassesOwn.never rfl (pi_list (pv 1)) (pg_name (i := 4) sc__law_contents.nd rfl (Or.inr rfl)) (pss_one (ps_expr (pe_bm PySem.F.plainAttrs_list PySem.F.slot_list_extend PySem.F.type_list_extend mt_extend (pv 3) (pa_cons (pe_lc (own := [("_law_value", 5)]) (g := gName 5) rfl sc__law_contents.nd (pi_range1 (by rfl) B.range (pa_cons (pv 2) pa_nil)) (blkOk_by (N := ["_law_house_here", "_law_found", "_law_size", "_law_rows", "_law_row", "_law_value"]) (sc := defScope s__law_contents) (by decide +kernel)) (fun _ _ _ _ _ => (pg_name (i := 5) sc__law_contents.nd rfl (Or.inl rfl))) (fun _ _ _ _ _ => pts_nil) (fun _ _ _ _ _ => (pe_op (catT K) (pv 4) (pe_tup (pa_cons (pv 5) pa_nil))))) pa_nil)))))
      (pss_one (ps_set (i := 1) sc__law_contents.nd rfl (Or.inl rfl) (pv 3))))))
      (pss_one (ps_ret (pv 1))))), ?_⟩
    refine sq (st_setL F0 (el_lst (eu_c (d := encC []) (ev_tup eu_nil) eu_nil) (fun ds e => by rw [e]; exact Nat.le_of_ble_eq_true rfl)) fun a0 ds0 H1 e1 F1 n1 p1 => ?_)
    subst p1
    dsimp only
    refine sq (st_forT (ds := h.sizes.map dN) (fun n env' σ' H' => ∃ x2 x3 x4 x5, env' = [.d (encH h), .l ((contC (h.sizes.take n)).map encC), x2, x3, x4, x5]) F1 (ev_ix (ev_v rfl) ev_i rfl) (fun H2 e2 => ⟨_, _, _, _, rfl⟩) (fun v0 n d v env' σ' H' hd F' hI hv => ?_) (fun env' σ' H' F' hI => ?_))
    · obtain ⟨x2, x3, x4, x5, rfl⟩ := hI
      rw [List.getElem?_map] at hd
      obtain ⟨z, hz, rfl⟩ := Option.map_eq_some_iff.mp hd
      have hzb := ho.sz z (List.mem_of_getElem? hz)
      have few := cont_few ho n
      have hnl : n < h.sizes.length := (List.getElem?_eq_some_iff.mp hz).1
      refine gN F' hv fun F2 => ?_
      refine sq (st_setL F2 (el_lst eu_nil (fun ds e => by rw [e]; decide)) fun a3 ds3 H3 e3 F3 n3 p3 => ?_)
      subst p3
      dsimp only
      refine sq (st_forS (s0 := 1) (ds := (contC (h.sizes.take n)).map encC) (fun m env2 σ2 H2 => ∃ x4 x5, env2 = [.d (encH h), .l ((contC (h.sizes.take n)).map encC), .d (dN z), .l ((stepCs z ((contC (h.sizes.take n)).take m)).map encC), x4, x5] ∧ σ2[1]? = ((σ'.set 2 (some v)).set 3 (some (.ref a3)))[1]?) F3 rfl ⟨_, _, rfl, rfl⟩ (fun m env2 a σ2 H2 hs _ ⟨x4, x5, e, es⟩ => ⟨by rw [e]; rfl, by rw [es]; exact hs⟩) (fun m d v env2 σ2 H2 hd F4 hI hv => ?_) (fun env2 σ2 H2 F4 hI => ?_))
      · obtain ⟨x4, x5, rfl, es⟩ := hI
        rw [List.getElem?_map] at hd
        obtain ⟨x, hx, rfl⟩ := Option.map_eq_some_iff.mp hd
        have hm : m < (contC (h.sizes.take n)).length := (List.getElem?_eq_some_iff.mp hx).1
        have l1 := stepCs_len z ((contC (h.sizes.take n)).take m)
        rw [List.length_take] at l1
        refine gN F4 hv fun F5 => ?_
        have lb : (stepCs z ((contC (h.sizes.take n)).take m)).length ≤ 8 * 4 := by
          rw [l1]
          exact Nat.mul_le_mul (by omega) hzb.2
        refine st_ext F5 (i := 3) rfl (fun ys e => ?_) (el_mapR (n := z) (f := fun v => encC (x ++ [v])) (ev_v rfl) (by omega) fun v hv => (ev_cat (xs := x.map dN) (ev_v rfl) (ev_tup (eu_c (ev_v rfl) eu_nil)) ?_).to ?_).k fun ys H6 F6 tk e => ?_
        · rw [e, List.length_map, List.length_map, List.length_range]
          omega
        · have := ((cont_ok h.sizes n (by omega)).1 x (List.mem_of_getElem? hx)).1
          rw [List.length_take] at this
          have := ho.s3
          rw [List.length_map]
          show x.length + 1 ≤ _
          omega
        · rw [encC, dNs, List.map_append]
          rfl
        · subst e
          have e : (stepCs z ((contC (h.sizes.take n)).take m)).map encC ++ (List.range z).map (fun v => encC (x ++ [v])) = (stepCs z ((contC (h.sizes.take n)).take (m + 1))).map encC := by
            rw [take_snoc hx]
            unfold stepCs
            rw [List.flatMap_append, List.map_append, List.flatMap_cons, List.flatMap_nil, List.append_nil, List.map_map]
            rfl
          rw [e] at F6
          exact ⟨_, F6, _, _, rfl, by rw [List.getElem?_set_ne (by decide)]; exact es⟩
      · obtain ⟨x4, x5, rfl, es⟩ := hI
        rw [List.length_map, List.take_length] at F4
        refine st_mv F4 (i := 1) (j := 3) (by decide) rfl fun a F5 => ?_
        have e : stepCs z (contC (h.sizes.take n)) = contC (h.sizes.take (n + 1)) := by
          rw [take_snoc hz]
          unfold contC
          rw [List.foldl_append]
          rfl
        rw [e] at F5
        exact ⟨_, F5, _, _, _, _, rfl⟩
    · obtain ⟨x2, x3, x4, x5, rfl⟩ := hI
      rw [List.length_map, List.take_length] at F'
      exact st_retV F' rfl fun a vs e n l r => k a vs _ _ e n l r rfl
/-! ### a content with another value -/
def spPut (T : List (Addr × Str)) : Sp := spWith T
theorem ok_put {f : Addr} {fd : FuncData} (D : Df K mg "_law_put" s__law_put f fd ["_law_content", "_law_cell", "_law_value"]) : Cal P w K mg base "_law_put" s__law_put ["_law_content", "_law_cell", "_law_value"] 1 (spWith T) := by
  refine ⟨f, fd, D, D.F.ok sc__law_put (fun vs H Q E h => ?_) (fun cdv A outer s H vs Q E hr h => ?_)⟩
  · obtain ⟨a, h1, _⟩ := h
    exact h1.len
  · obtain ⟨⟨x, c, v⟩, ⟨hc, hl⟩, F0, k⟩ := SpD.ent (N := ["_law_content", "_law_cell", "_law_value"]) h (fun _ => Nat.le_of_ble_eq_true rfl)
    dsimp only at *
    refine ⟨_, (pss_one (ps_ret (pe_op op_catA (pe_op op_catA (pe_slice sl_tupA (pv 0) po_none (po_some (pv 1))) (pe_tup (pa_cons (pv 2) pa_nil))) (pe_slice sl_tupA (pv 0) (po_some (pe_op op_add (pv 1) pe_int)) po_none)))), ?_⟩
    have l1 : ∀ lo hi, (cutD (x.map dN) lo hi).length ≤ 1000 := fun lo hi => by
      unfold cutD
      rw [List.length_take, List.length_drop, List.length_map]
      omega
    refine st_ret F0 (ev_cat (ev_cat (ev_slT (ev_v rfl) eo_none (eo_some (ev_v rfl))) (ev_tup (eu_c (ev_v rfl) eu_nil)) ?_) (ev_slT (ev_v rfl) (eo_some (ev_add (ev_v rfl) ev_i)) eo_none) ?_).ev fun v d H3 e3 r3 p3 => k v d H3 e3 r3 ?_
    · have := l1 none (some (c : Int))
      show _ + 1 ≤ _
      omega
    · rw [List.length_append]
      have := l1 none (some (c : Int))
      have := l1 (some ((c : Int) + 1)) none
      show _ + 1 + _ ≤ _
      omega
    · rw [p3]
      exact set_data hc
/-! ### done -/
/-- an item of a slot's list is set -/
theorem g_put {po : Option PenD} {Hb : Hp} {gs : List (V × AV)} {env : List AV} {H : Hp} {σ : L2.St} {Q : L2.St → Hp → Prop} {ti : TE} {i k : Nat} {xs : List PyData} {v : V} {d : PyData} (F : Fr T po Hb gs env H σ) (hi : env[i]? = some (.l xs)) (hk : k < xs.length) (r : Dt H v d) (h2 : EvD T po Hb gs env ti (dN k))
    (q : ∀ H', Fr T po Hb gs (env.set i (.l (xs.set k d))) H' σ → Tk H H' → Q σ H') : gSub (tVar i) ti rSetL v σ H Q := by
  obtain ⟨a, vs, s1, h0, s2, s3⟩ := F.lst hi
  refine ⟨.ref a, s1, h2 σ H F _ fun w H2 e2 F2 r2 => ?_⟩
  obtain rfl := r2.i
  have hv : H2 a = some (.lst vs) := e2.lst (F.notPen h0) s2
  refine ⟨a, vs, k, k, rfl, rfl, hv, ?_, ?_⟩
  · have hl := s3.len
    have hk2 : k < vs.length := by omega
    unfold ixN
    by_cases h : (0 : Int) ≤ (k : Int) ∧ (k : Int) < (vs.length : Int)
    · simp [hk2]
    · omega
  · obtain ⟨F3, tk⟩ := F2.put hi s1 hv (DtA.set (r.mono e2.tup) k (s3.mono e2.tup))
    exact q _ F3 (e2.tup.trans tk)
theorem st_put {po : Option PenD} {Hb : Hp} {gs : List (V × AV)} {env : List AV} {H : Hp} {σ : L2.St} {D : Ends} {te ti : TE} {i k : Nat} {xs : List PyData} {d : PyData} (F : Fr T po Hb gs env H σ) (hi : env[i]? = some (.l xs)) (hk : k < xs.length) (h : EvD T po Hb gs env te d) (h2 : EvD T po Hb gs env ti (dN k))
    (q : ∀ H', Fr T po Hb gs (env.set i (.l (xs.set k d))) H' σ → D.nx σ H') : tAsg te (gSub (tVar i) ti rSetL) D σ H := h σ H F _ fun v H1 e1 F1 r1 => g_put F1 hi hk r1 h2 fun H2 F2 _ => q H2 F2
theorem st_put2 {po : Option PenD} {Hb : Hp} {gs : List (V × AV)} {env : List AV} {H : Hp} {σ : L2.St} {D : Ends} {te tu ti tj : TE} {i k l : Nat} {xs : List PyData} {d e : PyData} (F : Fr T po Hb gs env H σ) (hi : env[i]? = some (.l xs)) (hk : k < xs.length) (hl : l < xs.length) (h : EvD T po Hb gs env te d) (h' : EvD T po Hb gs env tu e) (h2 : EvD T po Hb gs env ti (dN k)) (h3 : EvD T po Hb gs (env.set i (.l (xs.set k d))) tj (dN l))
    (q : ∀ H', Fr T po Hb gs (env.set i (.l ((xs.set k d).set l e))) H' σ → D.nx σ H') : tAsg (tTup (tCons te (tCons tu tNil))) (gTup K 2 (gCons (gSub (tVar i) ti rSetL) (gCons (gSub (tVar i) tj rSetL) gNil))) D σ H := (ev_tup (eu_c h (eu_c h' eu_nil))) σ H F _ fun v H1 e1 F1 r1 => by
  obtain ⟨a, ys, rfl, h1, hd⟩ := r1.t
  cases hd with
  | cons r1 hd =>
    cases hd with
    | cons r2 hd =>
      cases hd
      refine ⟨a, _, rfl, SqT.of h1, rfl, _, _, rfl, g_put F1 hi hk r1 h2 fun H2 F2 tk => ⟨_, _, rfl, g_put F2 (xs := xs.set k d) ?_ (by rw [List.length_set]; exact hl) (r2.mono tk) h3 fun H3 F3 _ => ⟨rfl, q H3 ?_⟩⟩⟩
      · rw [List.getElem?_set_self (List.getElem?_eq_some_iff.mp hi).1]
      · rw [List.set_set] at F3
        exact F3
def goesS : Step → Con → Bool
  | .when c v _, x => decide (x.getD c 0 = v)
  | _, _ => false
theorem step_word (s : Step) : ∃ wd rest, encStep s = .tuple (.str wd :: rest) ∧ decide (wd = "when") = (match s with | .when _ _ _ => true | _ => false) := by
  cases s with
  | when c v s => exact ⟨"when", [dN c, dN v, encStep s], rfl, (show decide ((Str.ofString "when") = Str.ofString "when") = true by decide +kernel)⟩
  | set c v => exact ⟨"set", [dN c, dN v], rfl, (show decide ((Str.ofString "set") = Str.ofString "when") = false by decide +kernel)⟩
  | copy c d => exact ⟨"copy", [dN c, dN d], rfl, (show decide ((Str.ofString "copy") = Str.ofString "when") = false by decide +kernel)⟩
  | swap c d => exact ⟨"swap", [dN c, dN d], rfl, (show decide ((Str.ofString "swap") = Str.ofString "when") = false by decide +kernel)⟩
  | add c n => exact ⟨"add", [dN c, dN n], rfl, (show decide ((Str.ofString "add") = Str.ofString "when") = false by decide +kernel)⟩
def spDone (T : List (Addr × Str)) : Sp := SpD T (α := House × Nat × Con) (fun a => [.d (encH a.1), .d (dN a.2.1), .d (encC a.2.2)]) (fun a => HouseOk a.1 ∧ a.2.1 < a.1.deeds.length ∧ ConOk a.1.sizes a.2.2) (fun a d => d = encC (doneC a.1 a.2.1 a.2.2))
theorem ok_done (B : Bi mg) {f : Addr} {fd : FuncData} (D : Df K mg "_law_done" s__law_done f fd ["_law_house_here", "_law_deed", "_law_content"]) : Cal P w K mg base "_law_done" s__law_done ["_law_house_here", "_law_deed", "_law_content"] 1 (spDone T) := by
  refine ⟨f, fd, D, D.F.ok sc__law_done (fun vs H Q E h => ?_) (fun cdv A outer s H vs Q E hr h => ?_)⟩
  · obtain ⟨a, h1, _⟩ := h
    exact h1.len
  · obtain ⟨⟨h, kk, x⟩, ⟨ho, hk, hx⟩, F0, k⟩ := SpD.ent (N := ["_law_house_here", "_law_deed", "_law_content", "_law_cells", "_law_first", "_law_step"]) h (fun _ => Nat.le_of_ble_eq_true rfl)
    dsimp only at *
    refine ⟨_, (pss_cons (ps_set (i := 3) sc__law_done.nd rfl (Or.inl rfl) (pe_callTy call_list_of (by rfl) B.list PyProof.Rows.boot_list (pa_cons (pv 2) pa_nil)))
      (pss_cons (ps_for PassesOwn.never rfl (pi_tup (pe_ix ix_tup (pe_ix ix_tup (pv 0) pe_int (fun _ _ => rfl)) (pv 1) (fun _ _ => rfl))) (pg_name (i := 4) sc__law_done.nd rfl (Or.inl rfl)) (pss_cons (ps_set (i := 5) sc__law_done.nd rfl (Or.inl rfl) (pv 4))
      (pss_cons (ps_while PassesOwn.never (PW.pt (pw_and (pt_cmpR op_eq (pe_ix ix_tup (pv 5) pe_int (fun _ _ => rfl)) pe_str (nomark _)) (pw_and1 (pt_cmpR op_eq (pe_ix ix_list (pv 3) (pe_ix ix_tup (pv 5) pe_int (fun _ _ => rfl)) (fun _ _ => rfl)) (pe_ix ix_tup (pv 5) pe_int (fun _ _ => rfl)) (nomark _))))) (pss_one (ps_set (i := 5) sc__law_done.nd rfl (Or.inl rfl) (pe_ix ix_tup (pv 5) pe_int (fun _ _ => rfl)))))
      (pss_cons (ps_if (pt_cmpR op_eq (pe_ix ix_tup (pv 5) pe_int (fun _ _ => rfl)) pe_str (nomark _)) (pss_one (ps_asg (pe_ix ix_tup (pv 5) pe_int (fun _ _ => rfl)) (pg_sub (pv 3) (pe_ix ix_tup (pv 5) pe_int (fun _ _ => rfl)) set_list))) pss_nil)
      (pss_cons (ps_if (pt_cmpR op_eq (pe_ix ix_tup (pv 5) pe_int (fun _ _ => rfl)) pe_str (nomark _)) (pss_one (ps_asg (pe_ix ix_list (pv 3) (pe_ix ix_tup (pv 5) pe_int (fun _ _ => rfl)) (fun _ _ => rfl)) (pg_sub (pv 3) (pe_ix ix_tup (pv 5) pe_int (fun _ _ => rfl)) set_list))) pss_nil)
      (pss_cons (ps_if (pt_cmpR op_eq (pe_ix ix_tup (pv 5) pe_int (fun _ _ => rfl)) pe_str (nomark _)) (pss_one (ps_asg (pe_tup (pa_cons (pe_ix ix_list (pv 3) (pe_ix ix_tup (pv 5) pe_int (fun _ _ => rfl)) (fun _ _ => rfl)) (pa_cons (pe_ix ix_list (pv 3) (pe_ix ix_tup (pv 5) pe_int (fun _ _ => rfl)) (fun _ _ => rfl)) pa_nil))) (pg_tup (by rfl) (pgs_cons (pg_sub (pv 3) (pe_ix ix_tup (pv 5) pe_int (fun _ _ => rfl)) set_list) (pgs_cons (pg_sub (pv 3) (pe_ix ix_tup (pv 5) pe_int (fun _ _ => rfl)) set_list) pgs_nil))))) pss_nil)
      (pss_one (ps_if (pt_cmpR op_eq (pe_ix ix_tup (pv 5) pe_int (fun _ _ => rfl)) pe_str (nomark _)) (pss_one (ps_asg (pe_op op_modN (pe_callTy call_int1 (by rfl) B.int PyProof.Rows.boot_int (pa_cons (pe_op op_add (pe_ix ix_list (pv 3) (pe_ix ix_tup (pv 5) pe_int (fun _ _ => rfl)) (fun _ _ => rfl)) (pe_ix ix_tup (pv 5) pe_int (fun _ _ => rfl))) pa_nil)) (pe_ix ix_tup (pe_ix ix_tup (pv 0) pe_int (fun _ _ => rfl)) (pe_ix ix_tup (pv 5) pe_int (fun _ _ => rfl)) (fun _ _ => rfl))) (pg_sub (pv 3) (pe_ix ix_tup (pv 5) pe_int (fun _ _ => rfl)) set_list))) pss_nil))))))))
      (pss_one (ps_ret (pe_tupleOf (by rfl) B.tuple (pv 3)))))), ?_⟩
    have hdk := at_sz hk []
    have hdo := ho.deeds _ (List.mem_of_getElem? hdk)
    have h2 : ∀ z ∈ h.sizes, 2 ≤ z := fun z hz => (ho.sz z hz).1
    refine sq (st_setL F0 (el_listT (ev_v rfl)) fun a3 ds3 H1 e1 F1 n1 p1 => ?_)
    subst p1
    dsimp only
    refine sq (st_forT (ds := (h.deeds.getD kk []).map encStep) (fun n env' σ' H' => ∃ x4 x5 y, env' = [.d (encH h), .d (dN kk), .d (encC x), .l (y.map dN), x4, x5] ∧ y = ((h.deeds.getD kk []).take n).foldl (fun x s => stepC h.sizes s x) x ∧ ConOk h.sizes y) F1 (ev_ix (ev_ix (ev_v rfl) ev_i rfl) (ev_v rfl) (at_Deed hdk)) (fun H2 e2 => ⟨_, _, x, rfl, rfl, hx⟩) (fun v0 n d v env' σ' H' hd F' hI hv => ?_) (fun env' σ' H' F' hI => ?_))
    · obtain ⟨x4, x5, y, rfl, hy, hyo⟩ := hI
      rw [List.getElem?_map] at hd
      obtain ⟨st, hst, rfl⟩ := Option.map_eq_some_iff.mp hd
      have hso := hdo.2 st (List.mem_of_getElem? hst)
      refine gN F' hv fun F2 => ?_
      refine sq (st_set F2 (ev_v (x := encStep st) rfl).ev fun v3 d3 H3 e3 F3 p3 => ?_)
      subst p3
      dsimp only
      refine sq (st_while (fun m env' => ∃ st', env' = [.d (encH h), .d (dN kk), .d (encC x), .l (y.map dN), .d (encStep st), .d (encStep st')] ∧ stepC h.sizes st' y = stepC h.sizes st y ∧ StepOk h.sizes st' ∧ st'.dep ≤ m)
        (fun m env' b => ∃ st', env' = [.d (encH h), .d (dN kk), .d (encC x), .l (y.map dN), .d (encStep st), .d (encStep st')] ∧ stepC h.sizes st' y = stepC h.sizes st y ∧ StepOk h.sizes st' ∧ st'.dep ≤ m ∧ b = goesS st' y) F3 (m0 := st.dep) ⟨st, rfl, rfl, hso.1, Nat.le_refl _⟩ (fun m env' hI => ?_) (fun m env' σ2 H2 F2 _ hP => ?_) (fun m env' σ2 H2 F2 _ hP => ?_))
      · obtain ⟨st', rfl, hs1, hs2, hs3⟩ := hI
        obtain ⟨wd, rest, hw1, hw2⟩ := step_word st'
        refine (et_and (Pa := fun b => b = decide (wd = "when")) (Pb := fun b => b = goesS st' y) (Pc := fun b => b = goesS st' y) (et (ev_eqStr (ev_ix (ds := .str wd :: rest) ((ev_v rfl).to hw1) ev_i (atI_nat (xs := .str wd :: rest) (j := 0) rfl)) ev_s)) (fun pa => ?_) (fun pa => ?_) (fun pa b pb => pb)).imp fun b e => ⟨st', rfl, hs1, hs2, hs3, e⟩
        · cases st' with
          | when c v s' =>
            have hyc := hyo.get (at_sz hs2.1 0)
            refine (et (ev_eqI (ev_ixK (ek_l rfl) (ev_ix (ds := [.str "when", dN c, dN v, encStep s']) (ev_v rfl) ev_i rfl) (at_N hyc.1)) (ev_ix (ds := [.str "when", dN c, dN v, encStep s']) (ev_v rfl) ev_i rfl))).imp fun b e => ?_
            rw [e]
            show _ = decide (y.getD c 0 = v)
            by_cases hh : y.getD c 0 = v
            · rw [decide_eq_true hh, decide_eq_true (by rw [hh])]
            · rw [decide_eq_false hh, decide_eq_false (by omega)]
          | set c v => rw [← pa] at hw2; cases hw2
          | copy c v => rw [← pa] at hw2; cases hw2
          | swap c v => rw [← pa] at hw2; cases hw2
          | add c v => rw [← pa] at hw2; cases hw2
        · cases st' with
          | when c v s' => rw [← pa] at hw2; cases hw2
          | set c v => rfl
          | copy c v => rfl
          | swap c v => rfl
          | add c v => rfl
      · obtain ⟨st', rfl, hs1, hs2, hs3, hb⟩ := hP
        cases st' with
        | when c v s' =>
          have hgo : y.getD c 0 = v := of_decide_eq_true hb.symm
          refine st_set F2 (ev_ix (ds := [.str "when", dN c, dN v, encStep s']) (ev_v rfl) ev_i rfl).ev fun v4 d4 H4 e4 F4 p4 => ?_
          subst p4
          rw [Step.dep] at hs3
          refine ⟨s'.dep, _, by omega, F4, s', rfl, ?_, hs2.2, Nat.le_refl _⟩
          rw [← hs1]
          show _ = if _ then _ else _
          rw [if_pos hgo]
        | set c v => cases hb
        | copy c v => cases hb
        | swap c v => cases hb
        | add c v => cases hb
      · obtain ⟨st', rfl, hs1, hs2, hs3, hb⟩ := hP
        dsimp only
        have fin : ∀ (σ3 : L2.St) (H3 : Hp), Fr T none H ((v0, .d (.tuple ((h.deeds.getD kk []).map encStep))) :: []) [.d (encH h), .d (dN kk), .d (encC x), .l ((stepC h.sizes st y).map dN), .d (encStep st), .d (encStep st')] H3 σ3 → Lv T none H ((v0, .d (.tuple ((h.deeds.getD kk []).map encStep))) :: []) (fun n env' σ' H' => ∃ x4 x5 y, env' = [.d (encH h), .d (dN kk), .d (encC x), .l (y.map dN), x4, x5] ∧ y = ((h.deeds.getD kk []).take n).foldl (fun x s => stepC h.sizes s x) x ∧ ConOk h.sizes y) (n + 1) σ3 H3 := fun σ3 H3 F3 => by
          refine ⟨_, F3, _, _, _, rfl, ?_, stepC_ok h2 hso.1 hyo⟩
          rw [take_snoc hst, List.foldl_append, ← hy]
          rfl
        have no : ∀ {gs : List (V × AV)} {env : List AV} {te : TE} {wd : Str} {rest : List PyData} {u : Str} {b : Bool}, EvD T none H gs env te (.tuple (.str wd :: rest)) → decide (wd = u) = b → EvT T none H gs env (tTest (tOp rEq (tOp (rIxT K) te (tC (.int 0))) (tC (.str u)))) (· = b) := fun he hb => et (ev_eqStrB (ev_ix he ev_i (atI_nat (j := 0) rfl)) ev_s hb)
        cases st' with
        | when c v s' =>
          have hgo : ¬ y.getD c 0 = v := of_decide_eq_false hb.symm
          have es : stepC h.sizes st y = y := by
            rw [← hs1]
            show (if _ then _ else _) = _
            rw [if_neg hgo]
          refine sq (st_no F2 (no (wd := "when") (rest := [dN c, dN v, encStep s']) (ev_v rfl) (by decide +kernel)) fun H4 e4 F4 => ?_)
          dsimp only [tNext]
          refine sq (st_no F4 (no (wd := "when") (rest := [dN c, dN v, encStep s']) (ev_v rfl) (by decide +kernel)) fun H5 e5 F5 => ?_)
          dsimp only [tNext]
          refine sq (st_no F5 (no (wd := "when") (rest := [dN c, dN v, encStep s']) (ev_v rfl) (by decide +kernel)) fun H6 e6 F6 => ?_)
          dsimp only [tNext]
          refine st_no F6 (no (wd := "when") (rest := [dN c, dN v, encStep s']) (ev_v rfl) (by decide +kernel)) fun H7 e7 F7 => ?_
          dsimp only [tNext]
          refine fin _ _ ?_
          rw [es]
          exact F7
        | set c v =>
          have hyc := hyo.get (at_sz (hs2.elim fun z hz => (List.getElem?_eq_some_iff.mp hz.1).1) 0)
          refine sq (st_yes F2 (no (wd := "set") (rest := [dN c, dN v]) (ev_v rfl) (by decide +kernel)) fun H4 e4 F4 => ?_)
          dsimp only
          refine st_put F4 (i := 3) (k := c) rfl (by rw [List.length_map]; exact hyc.2.2) (d := dN v) (ev_ix (ds := [.str "set", dN c, dN v]) (ev_v rfl) ev_i rfl) (ev_ix (ds := [.str "set", dN c, dN v]) (ev_v rfl) ev_i rfl) fun H5 F5 => ?_
          dsimp only
          refine sq (st_no F5 (no (wd := "set") (rest := [dN c, dN v]) (ev_v rfl) (by decide +kernel)) fun H5 e5 F5 => ?_)
          dsimp only [tNext]
          refine sq (st_no F5 (no (wd := "set") (rest := [dN c, dN v]) (ev_v rfl) (by decide +kernel)) fun H6 e6 F6 => ?_)
          dsimp only [tNext]
          refine st_no F6 (no (wd := "set") (rest := [dN c, dN v]) (ev_v rfl) (by decide +kernel)) fun H7 e7 F7 => ?_
          dsimp only [tNext]
          refine fin _ _ ?_
          rw [← hs1, show stepC h.sizes (.set c v) y = y.set c v from rfl, List.map_set]
          exact F7
        | copy c e =>
          obtain ⟨z, hz1, hz2⟩ := hs2
          have hyc := hyo.get hz1
          have hyd := hyo.get hz2
          refine sq (st_no F2 (no (wd := "copy") (rest := [dN c, dN e]) (ev_v rfl) (by decide +kernel)) fun H3 e3 F3 => ?_)
          dsimp only [tNext]
          refine sq (st_yes F3 (no (wd := "copy") (rest := [dN c, dN e]) (ev_v rfl) (by decide +kernel)) fun H4 e4 F4 => ?_)
          dsimp only
          refine st_put F4 (i := 3) (k := c) rfl (by rw [List.length_map]; exact hyc.2.2) (d := dN (y.getD e 0)) (ev_ixK (ek_l rfl) (ev_ix (ds := [.str "copy", dN c, dN e]) (ev_v rfl) ev_i rfl) (at_N hyd.1)) (ev_ix (ds := [.str "copy", dN c, dN e]) (ev_v rfl) ev_i rfl) fun H5 F5 => ?_
          dsimp only
          refine sq (st_no F5 (no (wd := "copy") (rest := [dN c, dN e]) (ev_v rfl) (by decide +kernel)) fun H6 e6 F6 => ?_)
          dsimp only [tNext]
          refine st_no F6 (no (wd := "copy") (rest := [dN c, dN e]) (ev_v rfl) (by decide +kernel)) fun H7 e7 F7 => ?_
          dsimp only [tNext]
          refine fin _ _ ?_
          rw [← hs1, show stepC h.sizes (.copy c e) y = y.set c (y.getD e 0) from rfl, List.map_set]
          exact F7
        | swap c e =>
          obtain ⟨z, hz1, hz2, hne⟩ := hs2
          have hyc := hyo.get hz1
          have hyd := hyo.get hz2
          refine sq (st_no F2 (no (wd := "swap") (rest := [dN c, dN e]) (ev_v rfl) (by decide +kernel)) fun H3 e3 F3 => ?_)
          dsimp only [tNext]
          refine sq (st_no F3 (no (wd := "swap") (rest := [dN c, dN e]) (ev_v rfl) (by decide +kernel)) fun H4 e4 F4 => ?_)
          dsimp only [tNext]
          refine sq (st_yes F4 (no (wd := "swap") (rest := [dN c, dN e]) (ev_v rfl) (by decide +kernel)) fun H5 e5 F5 => ?_)
          dsimp only
          refine st_put2 F5 (i := 3) (k := c) (l := e) rfl (by rw [List.length_map]; exact hyc.2.2) (by rw [List.length_map]; exact hyd.2.2) (d := dN (y.getD e 0)) (e := dN (y.getD c 0)) (ev_ixK (ek_l rfl) (ev_ix (ds := [.str "swap", dN c, dN e]) (ev_v rfl) ev_i rfl) (at_N hyd.1)) (ev_ixK (ek_l rfl) (ev_ix (ds := [.str "swap", dN c, dN e]) (ev_v rfl) ev_i rfl) (at_N hyc.1)) (ev_ix (ds := [.str "swap", dN c, dN e]) (ev_v rfl) ev_i rfl) (ev_ix (ds := [.str "swap", dN c, dN e]) (ev_v rfl) ev_i rfl) fun H6 F6 => ?_
          dsimp only
          refine st_no F6 (no (wd := "swap") (rest := [dN c, dN e]) (ev_v rfl) (by decide +kernel)) fun H7 e7 F7 => ?_
          dsimp only [tNext]
          refine fin _ _ ?_
          rw [← hs1, show stepC h.sizes (.swap c e) y = (y.set c (y.getD e 0)).set e (y.getD c 0) from rfl, List.map_set, List.map_set]
          exact F7
        | add c e =>
          have hz := at_sz hs2 1
          have hyc := hyo.get hz
          have hzp := h2 _ (List.mem_of_getElem? hz)
          have em : ((y.getD c 0 : Int) + (e : Int)).fmod (h.sizes.getD c 1 : Int) = (((y.getD c 0 + e) % h.sizes.getD c 1 : Nat) : Int) := by
            rw [Int.fmod_eq_emod_of_nonneg _ (by omega), ← Int.natCast_add, ← Int.natCast_emod]
          refine sq (st_no F2 (no (wd := "add") (rest := [dN c, dN e]) (ev_v rfl) (by decide +kernel)) fun H3 e3 F3 => ?_)
          dsimp only [tNext]
          refine sq (st_no F3 (no (wd := "add") (rest := [dN c, dN e]) (ev_v rfl) (by decide +kernel)) fun H4 e4 F4 => ?_)
          dsimp only [tNext]
          refine sq (st_no F4 (no (wd := "add") (rest := [dN c, dN e]) (ev_v rfl) (by decide +kernel)) fun H5 e5 F5 => ?_)
          dsimp only [tNext]
          refine st_yes F5 (no (wd := "add") (rest := [dN c, dN e]) (ev_v rfl) (by decide +kernel)) fun H6 e6 F6 => ?_
          refine st_put F6 (i := 3) (k := c) rfl (by rw [List.length_map]; exact hyc.2.2) (d := dN ((y.getD c 0 + e) % h.sizes.getD c 1)) ((ev_modN (by omega) ((ev_int (ev_add (ev_ixK (ek_l rfl) (ev_ix (ds := [.str "add", dN c, dN e]) (ev_v rfl) ev_i rfl) (at_N hyc.1)) (ev_ix (ds := [.str "add", dN c, dN e]) (ev_v rfl) ev_i rfl)).ev (fun x e => ⟨_, e⟩)).one) (ev_ix (ev_ix (ev_v rfl) ev_i rfl) (ev_ix (ds := [.str "add", dN c, dN e]) (ev_v rfl) ev_i rfl) (at_N hz))).to (congrArg PyData.int em)) (ev_ix (ds := [.str "add", dN c, dN e]) (ev_v rfl) ev_i rfl) fun H7 F7 => ?_
          refine fin _ _ ?_
          rw [← hs1, show stepC h.sizes (.add c e) y = y.set c ((y.getD c 0 + e) % h.sizes.getD c 1) from rfl, List.map_set]
          exact F7
    · obtain ⟨x4, x5, y, rfl, hy, hyo⟩ := hI
      rw [List.length_map, List.take_length] at hy
      refine st_ret F' (ev_tuple (ek_l rfl)) fun v d H4 e4 r4 ⟨ds, p4, p5⟩ => k v d H4 e4 r4 ?_
      rw [p5, p4, hy]
      rfl
/-! ### answered, sure -/
theorem ok_answered (B : Bi mg) {f : Addr} {fd : FuncData} (D : Df K mg "_law_answered" s__law_answered f fd ["_law_house_here", "_law_question", "_law_content"]) : Cal P w K mg base "_law_answered" s__law_answered ["_law_house_here", "_law_question", "_law_content"] 1 (spAsked T) := by
  refine ⟨f, fd, D, D.F.ok sc__law_answered (fun vs H Q E h => ?_) (fun cdv A outer s H vs Q E hr h => ?_)⟩
  · obtain ⟨a, h1, _⟩ := h
    exact h1.len
  · obtain ⟨⟨h, q, x⟩, ⟨ho, hq, hx⟩, F0, k⟩ := SpD.ent (N := ["_law_house_here", "_law_question", "_law_content", "_law_index", "_law_seen", "_law_cell", "_law_goals"]) h (fun _ => Nat.le_of_ble_eq_true rfl)
    dsimp only at *
    refine ⟨_, (pss_cons (ps_par (i := 3) (j := 4) rfl sc__law_answered.nd rfl rfl (by decide) rfl rfl (pa_cons (pe_ix ix_tup (pe_ix ix_tup (pv 0) pe_int (fun _ _ => rfl)) (pv 1) (fun _ _ => rfl)) (pa_cons (pe_lst pa_nil) pa_nil)) (by rfl))
      (pss_cons (ps_while PassesOwn.never (pt_cmpR op_eq (pe_ix ix_tup (pe_ix ix_tup (pe_ix ix_tup (pv 0) pe_int (fun _ _ => rfl)) (pv 3) (fun _ _ => rfl)) pe_int (fun _ _ => rfl)) pe_str (nomark _)) (pss_cons (ps_asg (pe_slice sl_tupA (pe_ix ix_tup (pe_ix ix_tup (pv 0) pe_int (fun _ _ => rfl)) (pv 3) (fun _ _ => rfl)) (po_some pe_int) po_none) (pg_tup (by rfl) (pgs_cons (pg_name (i := 5) sc__law_answered.nd rfl (Or.inl rfl)) (pgs_cons (pg_name (i := 6) sc__law_answered.nd rfl (Or.inl rfl)) pgs_nil))))
      (pss_cons (ps_expr (pe_bm PySem.F.plainAttrs_list PySem.F.slot_list_append PySem.F.type_list_append mt_append (pv 4) (pa_cons (pv 5) pa_nil)))
      (pss_one (ps_set (i := 3) sc__law_answered.nd rfl (Or.inl rfl) (pe_ix ix_tup (pv 6) (pe_ix ix_tup (pv 2) (pv 5) (fun _ _ => rfl)) (fun _ _ => rfl)))))))
      (pss_one (ps_ret (pe_tup (pa_cons (pe_tupleOf (by rfl) B.tuple (pv 4)) (pa_cons (pe_ix ix_tup (pe_ix ix_tup (pe_ix ix_tup (pv 0) pe_int (fun _ _ => rfl)) (pv 3) (fun _ _ => rfl)) pe_int (fun _ _ => rfl)) pa_nil))))))), ?_⟩
    have hq1 : h.qs[q]? = some (h.qs.getD q 0) := at_sz hq 0
    have hi0 : h.qs.getD q 0 < h.nodes.length := ho.qs _ (List.mem_of_getElem? hq1)
    have hn1 : h.nodes[h.qs.getD q 0]? = some h.nodes[h.qs.getD q 0] := List.getElem?_eq_getElem hi0
    refine sq (st_parDL F0 (ev_ix (ev_ix (ev_v rfl) ev_i rfl) (ev_v rfl) (at_N hq1)).ev (el_lst eu_nil (fun ds e => by rw [e]; decide)) fun v0 a0 x0 ds0 H1 e1 F1 p1 p2 => ?_)
    subst p1
    subst p2
    dsimp only
    have node : ∀ {gs : List (V × AV)} {env : List AV} {i : Nat} {n : Node}, env[0]? = some (.d (encH h)) → env[3]? = some (.d (dN i)) → h.nodes[i]? = some n → EvD T none H gs env (tOp (rIxT K) (tOp (rIxT K) (tVar 0) (tC (.int 1))) (tVar 3)) (encNode n) := fun e0 e1 hn => ev_ix (ev_ix (ev_v e0) ev_i rfl) (ev_v e1) (at_Node hn)
    refine sq (st_while (fun m env' => ∃ i n z x5 x6, env' = [.d (encH h), .d (dN q), .d (encC x), .d (dN i), .l (z.map dN), x5, x6] ∧ AInv h q x m i n z)
      (fun m env' b => ∃ i n z x5 x6, env' = [.d (encH h), .d (dN q), .d (encC x), .d (dN i), .l (z.map dN), x5, x6] ∧ AInv h q x m i n z ∧ b = isLook n) F1 (m0 := h.nodes.length) ⟨_, _, [], _, _, rfl, hn1, Nat.le_add_right _ _, rfl, Nat.le_of_eq (Nat.zero_add _)⟩ (fun m env' hI => ?_) (fun m env' σ' H' F' _ hP => ?_) (fun m env' σ' H' F' _ hP => ?_))
    · obtain ⟨i, n, z, x5, x6, rfl, hA⟩ := hI
      cases n with
      | ans a => exact (et (ev_eqStrB (b := false) (ev_ix (node rfl rfl hA.1) ev_i rfl) ev_s (by decide +kernel))).imp fun b e => ⟨i, _, z, _, _, rfl, hA, e⟩
      | look c goals => exact (et (ev_eqStrB (b := true) (ev_ix (node rfl rfl hA.1) ev_i rfl) ev_s (by decide +kernel))).imp fun b e => ⟨i, _, z, _, _, rfl, hA, e⟩
    · obtain ⟨i, n, z, x5, x6, rfl, ⟨hn, hm, ha, hz⟩, hl⟩ := hP
      cases n with
      | ans a => cases hl
      | look c goals =>
        obtain ⟨sz, hs1, hg1, hg2⟩ := ho.nodes i _ hn
        have hil : i < h.nodes.length := (List.getElem?_eq_some_iff.mp hn).1
        have hcl : c < x.length := by rw [hx.1]; exact (List.getElem?_eq_some_iff.mp hs1).1
        have hxc := at_sz hcl 0
        have hv := hx.2 c _ sz hxc hs1
        have hgl : x.getD c 0 < goals.length := by rw [hg1]; exact hv
        have hgg := at_sz hgl 0
        obtain ⟨g1, g2⟩ := hg2 _ (List.mem_of_getElem? hgg)
        have hnn : h.nodes[goals.getD (x.getD c 0) 0]? = some h.nodes[goals.getD (x.getD c 0) 0] := List.getElem?_eq_getElem g2
        obtain ⟨m, rfl⟩ : ∃ m', m = m' + 1 := ⟨m - 1, by omega⟩
        have hnm := ho.nmost
        refine sq (st_set2 (x := dN c) (y := dNs goals) F' (ev_slT (ds := [.str "look", dN c, dNs goals]) (node rfl rfl hn) (eo_some ev_i) eo_none) fun v1 v2 H2 e2 F2 => ?_)
        dsimp only
        refine sq (st_app F2 (i := 4) rfl (by rw [List.length_map]; omega) (ev_v (x := dN c) rfl).ev fun d3 H3 F3 tk p3 => ?_)
        subst p3
        dsimp only
        refine st_set F3 (ev_ix (ev_v (x := dNs goals) rfl) (ev_ix (ev_v (x := encC x) rfl) (ev_v rfl) (at_N hxc)) (at_N hgg)).ev fun v4 d4 H4 e4 F4 p4 => ?_
        subst p4
        refine ⟨m, _, Nat.lt_succ_self m, F4, goals.getD (x.getD c 0) 0, _, z ++ [c], .d (dN c), .d (dNs goals), ?_, hnn, by omega, ?_, ?_⟩
        · rw [List.map_append]
          rfl
        · rw [← ha]
          show _ = ansFrom h.nodes x (m + 1) i
          rw [ansFrom, getD_of hn]
        · rw [List.length_append]
          show z.length + 1 + m ≤ _
          omega
    · obtain ⟨i, n, z, x5, x6, rfl, ⟨hn, hm, ha, hz⟩, hl⟩ := hP
      cases n with
      | look c goals => cases hl
      | ans a =>
        have hil : i < h.nodes.length := (List.getElem?_eq_some_iff.mp hn).1
        obtain ⟨m, rfl⟩ : ∃ m', m = m' + 1 := ⟨m - 1, by omega⟩
        dsimp only
        refine st_ret F' (ev_tup (eu_c (Ev.one (ev_tuple (ek_l rfl) |>.imp fun d ⟨ds, e1, e2⟩ => by rw [e2, e1])) (eu_c (ev_ix (node rfl rfl hn) ev_i rfl) eu_nil))).ev fun v d H3 e3 r3 p3 => k v d H3 e3 r3 ⟨z, ?_⟩
        rw [p3, ← ha, ansFrom, getD_of hn]
theorem ev_count {po : Option PenD} {Hb : Hp} {gs : List (V × AV)} {env : List AV} {tk : TE} {i : Nat} {ns : List Int} {k : Int} (hi : env[i]? = some (.l (ns.map PyData.int))) (h : EvD T po Hb gs env tk (.int k)) : EvD T po Hb gs env (tBM K "list" (rCntI K) (tVar i) (tCons tk tNil)) (dN (ns.count k)) := fun σ H F Q q => by
  obtain ⟨a, vs, h1, h0, h2, h3⟩ := F.lst hi
  refine ⟨.ref a, h1, .inl ⟨rfl, _, SqL.of h2⟩, h σ H F _ fun v H1 e1 F1 r1 => ?_⟩
  obtain rfl := r1.i
  have e := h3.ints
  subst e
  exact ⟨a, ns, k, rfl, rfl, SqL.of (e1.lst (F.notPen h0) h2), q _ H1 e1 F1 (.int _)⟩
def spSure (T : List (Addr × Str)) : Sp := spVerdict T
theorem ok_sure (B : Bi mg) {f : Addr} {fd : FuncData} (D : Df K mg "_law_sure" s__law_sure f fd ["_law_house_here", "_law_question", "_law_some"]) (C1 : Cal P w K mg base "_law_answered" s__law_answered ["_law_house_here", "_law_question", "_law_content"] 1 (spAsked T)) : Cal P w K mg base "_law_sure" s__law_sure ["_law_house_here", "_law_question", "_law_some"] 2 (spVerdict T) := by
  obtain ⟨fa, fda, D_answered, G_answered⟩ := C1
  refine ⟨f, fd, D, D.F.ok sc__law_sure (fun vs H Q E h => ?_) (fun cdv A outer s H vs Q E hr h => ?_)⟩
  · obtain ⟨a, h1, _⟩ := h
    exact h1.len
  · obtain ⟨⟨h, q, ss⟩, ⟨ho, hq, hs⟩, F0, k⟩ := SpD.ent (N := ["_law_house_here", "_law_question", "_law_some", "_law_found", "_law_content"]) h (fun _ => Nat.le_of_ble_eq_true rfl)
    dsimp only at *
    refine ⟨_, (pss_cons (ps_setLc (i := 3) (own := [("_law_content", 4)]) (g := gName 4) rfl sc__law_sure.nd rfl rfl (sw_true rfl rfl rfl (by decide +kernel)) (pi_tup (pv 2)) (blkOk_by (N := ["_law_house_here", "_law_question", "_law_some", "_law_found", "_law_content"]) (sc := defScope s__law_sure) (by decide +kernel)) (fun _ _ _ _ _ => (pg_name (i := 4) sc__law_sure.nd rfl (Or.inl rfl))) (fun _ _ _ _ _ => pts_nil) (fun _ _ _ _ _ => (pe_ix (ixT K) (pe_call G_answered (hr.mono (by omega)) (by rfl) D_answered.m D_answered.F.kp D_answered.b .nil pass0 (pa_cons (pv 0) (pa_cons (pv 1) (pa_cons (pv 4) pa_nil)))) pe_int (fun _ _ => rfl))))
      (pss_one (ps_ret (pe_ifExp (pt_cmpR op_eq (pe_bm PySem.F.plainAttrs_list PySem.F.slot_list_count PySem.F.type_list_count mt_lcount (pv 3) (pa_cons (pe_ix ix_list (pv 3) pe_int (fun _ _ => rfl)) pa_nil)) (pe_callB call_len_seq (by rfl) B.len PySem.boot_len (pa_cons (pv 3) pa_nil)) (nomark _)) (pe_ix ix_list (pv 3) pe_int (fun _ _ => rfl)) pe_non)))), ?_⟩
    have l8 := hs.g.le8 ho
    obtain ⟨y, r, rfl⟩ : ∃ x r, ss = x :: r := by
      cases ss with
      | nil => exact absurd rfl hs.ne
      | cons x r => exact ⟨x, r, rfl⟩
    refine sq (st_setL F0 (el_mapE (enc := encC) (l := y :: r) (f := fun x => dN (ansC h q x)) (fun x _ z _ e => by rw [encC_inj e]) (ev_v rfl) (by omega) fun x hx => ev_ans (ev_v rfl) (ev_v rfl) (ev_v rfl) ho hq (hs.all x hx)) fun a3 ds3 H3 e3 F3 n3 p3 => ?_)
    subst p3
    dsimp only
    have em : (y :: r).map (fun x => dN (ansC h q x)) = ((y :: r).map fun x => ((ansC h q x : Nat) : Int)).map PyData.int := by rw [List.map_map]; rfl
    rw [em] at F3
    have at0 : atI (((y :: r).map fun x => ((ansC h q x : Nat) : Int)).map PyData.int) 0 = some (dN (ansC h q y)) := atI_nat (j := 0) rfl
    refine st_ret F3 (ev_if (Pb := fun b => b = decide (((((y :: r).map fun x => ((ansC h q x : Nat) : Int)).count (ansC h q y : Int) : Nat) : Int) = ((((y :: r).map fun x => ((ansC h q x : Nat) : Int)).map PyData.int).length : Nat))) (et (ev_eqI (ev_count rfl (ev_ixK (ek_l rfl) ev_i at0)) ((ev_lenK (ek_l rfl)).imp fun d ⟨ds, e1, e2⟩ => by rw [e2, e1]).one)) (Pd := fun d => d = optN (verdictC h q (y :: r))) (fun pb => (ev_ixK (d := dN (ansC h q y)) (ek_l rfl) ev_i at0).ev.imp fun d e => ?_) (fun pb => ev_n.ev.imp fun d e => ?_)) k
    · have hall := of_decide_eq_true pb.symm
      rw [List.length_map] at hall
      have hall2 := List.count_eq_length.mp (Int.ofNat.inj hall)
      rw [e]
      show _ = optN (if _ then _ else _)
      rw [if_pos]
      · rfl
      · rw [List.all_eq_true]
        intro z hz
        have := hall2 _ (List.mem_map.mpr ⟨z, List.mem_cons_of_mem _ hz, rfl⟩)
        exact decide_eq_true (by omega)
    · have hall := of_decide_eq_false pb.symm
      rw [List.length_map] at hall
      rw [e]
      show _ = optN (if _ then _ else _)
      rw [if_neg]
      · rfl
      · intro z
        rw [List.all_eq_true] at z
        refine hall (congrArg Int.ofNat (List.count_eq_length.mpr fun b hb => ?_))
        obtain ⟨x, hx, rfl⟩ := List.mem_map.mp hb
        rcases List.mem_cons.mp hx with rfl | hx
        · rfl
        · have := of_decide_eq_true (z x hx)
          rw [this]
end
end K22
/-! LE: sets, items, routes drawn; what goes on, as the law reckons it. -/
namespace K22
open PySem PySem.Spec L2 LamX
abbrev s__law_set : Stmt := topS 36
theorem sc__law_set : FnScope ["_law_pen_here", "_law_house_here", "_law_everything", "_law_found", "_law_content"] ["_law_pen_here", "_law_house_here"] (defScope s__law_set) := ⟨rfl, rfl, rfl, by decide +kernel, rfl, by decide +kernel, by decide +kernel⟩
abbrev s__law_item : Stmt := topS 37
theorem sc__law_item : FnScope ["_law_pen_here", "_law_house_here", "_law_cell", "_law_kind"] ["_law_pen_here", "_law_house_here"] (defScope s__law_item) := ⟨rfl, rfl, rfl, by decide +kernel, rfl, by decide +kernel, by decide +kernel⟩
abbrev s__law_route : Stmt := topS 38
theorem sc__law_route : FnScope ["_law_pen_here", "_law_house_here", "_law_most", "_law_many", "_law_found", "_law_place", "_law_later", "_law_nexts_here", "_law_one"] ["_law_pen_here", "_law_house_here", "_law_most"] (defScope s__law_route) := ⟨rfl, rfl, rfl, by decide +kernel, rfl, by decide +kernel, by decide +kernel⟩
abbrev s__law_behind : Stmt := topS 39
theorem sc__law_behind : FnScope ["_law_house_here", "_law_item_here", "_law_some", "_law_content", "_law_found", "_law_cells", "_law_value"] ["_law_house_here", "_law_item_here", "_law_some"] (defScope s__law_behind) := ⟨rfl, rfl, rfl, by decide +kernel, rfl, by decide +kernel, by decide +kernel⟩
abbrev s__law_parted : Stmt := topS 41
theorem sc__law_parted : FnScope ["_law_house_here", "_law_some", "_law_cell", "_law_found", "_law_value", "_law_part", "_law_content"] ["_law_house_here", "_law_some", "_law_cell"] (defScope s__law_parted) := ⟨rfl, rfl, rfl, by decide +kernel, rfl, by decide +kernel, by decide +kernel⟩
abbrev s__law_nexts : Stmt := topS 40
theorem sc__law_nexts : FnScope ["_law_house_here", "_law_route_here", "_law_place", "_law_some", "_law_item_here", "_law_nexts_here", "_law_one"] ["_law_house_here", "_law_route_here", "_law_place", "_law_some"] (defScope s__law_nexts) := ⟨rfl, rfl, rfl, by decide +kernel, rfl, by decide +kernel, by decide +kernel⟩
abbrev s__law_paid : Stmt := topS 46
theorem sc__law_paid : FnScope ["_law_costs", "_law_history", "_law_item_here"] ["_law_costs", "_law_history"] (defScope s__law_paid) := ⟨rfl, rfl, rfl, by decide +kernel, rfl, by decide +kernel, by decide +kernel⟩
theorem CompR.sub {Pb : PyData → Bool → Prop} {ds out : List PyData} (h : CompR Pb (fun d e => e = d) ds out) : out.Sublist ds := by
  induction h with
  | nil => exact List.Sublist.refl _
  | skip _ _ ih => exact ih.trans (List.sublist_append_left _ _)
  | keep _ _ he ih => exact he ▸ List.Sublist.append ih (List.Sublist.refl _)
section
variable {P : Program} {w : World} {K : PySem.W.Frag} {mg : Str → Option Value} {base : Heap} {T : List (Addr × Str)}
/-! ### a set drawn -/
def spSet (T : List (Addr × Str)) : Sp := SpP T (α := House) (fun a => [.d (encH a)]) (fun a => HouseOk a) (fun a d => ∃ s, SetOk a s ∧ d = encS s)
theorem ok_set (B : Bi mg) {f : Addr} {fd : FuncData} (D : Df K mg "_law_set" s__law_set f fd ["_law_pen_here", "_law_house_here"]) (C1 : Cal P w K mg base "_law_draw" s__law_draw ["_law_pen_here", "_law_many"] 2 (spDraw T)) (C2 : Cal P w K mg base "_law_contents" s__law_contents ["_law_house_here"] 1 (spContents T)) :
    Cal P w K mg base "_law_set" s__law_set ["_law_pen_here", "_law_house_here"] 3 (spSet T) := by
  obtain ⟨fa, fda, D_draw, G_draw⟩ := C1
  obtain ⟨fb, fdb, D_contents, G_contents⟩ := C2
  refine ⟨f, fd, D, D.F.ok sc__law_set (fun vs H Q E h => ?_) (fun cdv A outer s H vs Q E hr h => ?_)⟩
  · obtain ⟨a, P, h1, _⟩ := h
    exact h1.len
  · obtain ⟨h, Pn, ho, F0, k⟩ := SpP.ent (N := ["_law_pen_here", "_law_house_here", "_law_everything", "_law_found", "_law_content"]) h (fun _ => Nat.le_of_ble_eq_true rfl)
    refine ⟨_, (pss_cons (ps_set (i := 2) sc__law_set.nd rfl (Or.inl rfl) (pe_call G_contents (hr.mono (by omega)) (by rfl) D_contents.m D_contents.F.kp D_contents.b .nil pass0 (pa_cons (pv 1) pa_nil)))
      (pss_cons (ps_setLc (i := 3) (own := [("_law_content", 4)]) (g := gName 4) rfl sc__law_set.nd rfl rfl (sw_true rfl rfl rfl (by decide +kernel)) (pi_list (pv 2)) (blkOk_by (N := ["_law_pen_here", "_law_house_here", "_law_everything", "_law_found", "_law_content"]) (sc := defScope s__law_set) (by decide +kernel)) (fun _ _ _ _ _ => (pg_name (i := 4) sc__law_set.nd rfl (Or.inl rfl))) (fun _ _ _ _ _ => (pts_one (pt_cmpR op_eq (pe_call G_draw (hr.mono (by omega)) (by rfl) D_draw.m D_draw.F.kp D_draw.b .nil pass0 (pa_cons (pv 0) (pa_cons pe_int pa_nil))) pe_int (nomark _)))) (fun _ _ _ _ _ => (pv 4)))
      (pss_one (ps_ret (pe_tupleOf (by rfl) B.tuple (pe_ifExp (PW.pt (pw_or (pt_cmpR (op_eqD hr.units) (pv 3) (pe_lst pa_nil) (nomark _)) (pw_or1 (pt_cmpR op_eq (pe_call G_draw (hr.mono (by omega)) (by rfl) D_draw.m D_draw.F.kp D_draw.b .nil pass0 (pa_cons (pv 0) (pa_cons pe_int pa_nil))) pe_int (nomark _))))) (pv 2) (pv 3))))))), ?_⟩
    have cs := cont_set ho
    have l8 := cs.g.le8 ho
    refine sq (st_setL F0 (el_c (args := fun a : House => [.d (encH a)]) h (ea_c (ev_v rfl) ea_nil) ho) fun a2 ds2 H1 e1 F1 n1 p1 => ?_)
    subst p1
    dsimp only
    refine sq (st_setL F1 (el_compK (Pl := fun l => l = (contC h.sizes).map encC) (fun _ _ => True) (fun d e => e = d) (ek_l rfl) (fun ds e => by rw [e, List.length_map]; omega) (fun ds e d hd => etX (ev_eqII ((ev_dr (n := 2) rfl ev_i (by decide)).imp fun d ⟨r, _, e⟩ => ⟨_, e⟩) ev_i.isI)) (fun ds e d hd _ => (ev_v (x := d) rfl).ev)) fun a3 ds3 H2 e2 F2 n2 ⟨ds, p2, hR⟩ => ?_)
    subst p2
    obtain ⟨l, hl, el⟩ := List.sublist_map_iff.mp hR.sub
    subst el
    dsimp only
    refine st_ret F2 ((ev_tuple (ek_if (Pb := fun b => b = false → l ≠ []) (Pl := fun ds => ∃ s, SetOk h s ∧ ds = s.map encC) (et_or (Pa := fun b => b = l.isEmpty) (Pb := fun _ => True) (etX (Pb := fun b => b = l.isEmpty) ((ev_eqL (ek_l rfl) fun ds e => ?_).imp fun d ⟨ds, e1, e2⟩ => ⟨_, e2, by rw [e1]; cases l <;> rfl⟩)) (fun _ => (etX (ev_eqII ((ev_dr (n := 4) rfl ev_i (by decide)).imp fun d ⟨r, _, e⟩ => ⟨_, e⟩) ev_i.isI)).imp fun _ _ => trivial) (fun _ z => nomatch z) (fun p b _ _ e => by rw [e] at p; cases p)) (fun _ => (ek_l rfl).imp fun ds e => ⟨_, cs, e⟩) (fun pb => (ek_l rfl).imp fun ds e => ⟨l, ⟨pb rfl, fun x hx => cs.all x (hl.subset hx), hl.nodup cs.nd⟩, e⟩))).imp fun d ⟨ds, ⟨s, h1, h2⟩, h3⟩ => ⟨s, h1, by rw [h3, h2]⟩) k
    rw [e]
    refine (sh_lst (n := 2) fun d hd => ?_).shaped
    obtain ⟨x, hx, rfl⟩ := List.mem_map.mp hd
    exact ⟨(sh_Ns x).1, Nat.le_trans (sh_Ns x).2 (by decide)⟩
theorem Sh.mono {n m : Nat} {d : PyData} (h : Sh n d) (hm : n ≤ m) : Sh m d := ⟨h.1, Nat.le_trans h.2 hm⟩
theorem sh_step : ∀ s : Step, Sh s.dep (encStep s)
  | .when c v s => by
    rw [Step.dep, encStep]
    refine sh_tup fun d hd => ?_
    simp only [List.mem_cons, List.not_mem_nil, or_false] at hd
    rcases hd with rfl | rfl | rfl | rfl
    · exact ⟨by decide +kernel, Nat.zero_le _⟩
    · exact sh_N _ _
    · exact sh_N _ _
    · exact sh_step s
  | .set c v => sh_tup fun d hd => by
    simp only [List.mem_cons, List.not_mem_nil, or_false] at hd
    rcases hd with rfl | rfl | rfl
    · exact ⟨by decide +kernel, Nat.zero_le _⟩
    · exact sh_N _ _
    · exact sh_N _ _
  | .copy c v => sh_tup fun d hd => by
    simp only [List.mem_cons, List.not_mem_nil, or_false] at hd
    rcases hd with rfl | rfl | rfl
    · exact ⟨by decide +kernel, Nat.zero_le _⟩
    · exact sh_N _ _
    · exact sh_N _ _
  | .swap c v => sh_tup fun d hd => by
    simp only [List.mem_cons, List.not_mem_nil, or_false] at hd
    rcases hd with rfl | rfl | rfl
    · exact ⟨by decide +kernel, Nat.zero_le _⟩
    · exact sh_N _ _
    · exact sh_N _ _
  | .add c v => sh_tup fun d hd => by
    simp only [List.mem_cons, List.not_mem_nil, or_false] at hd
    rcases hd with rfl | rfl | rfl
    · exact ⟨by decide +kernel, Nat.zero_le _⟩
    · exact sh_N _ _
    · exact sh_N _ _
theorem sh_deeds {h : House} (ho : HouseOk h) : Sh 6 (.tuple (h.deeds.map encDeed)) := sh_tup fun d hd => by
  obtain ⟨l, hl, rfl⟩ := List.mem_map.mp hd
  refine sh_tup fun e he => ?_
  obtain ⟨s, hs, rfl⟩ := List.mem_map.mp he
  exact (sh_step s).mono ((ho.deeds l hl).2 s hs).2
/-! ### an item drawn -/
def spItem (T : List (Addr × Str)) : Sp := SpP T (α := House) (fun a => [.d (encH a)]) (fun a => HouseOk a) (fun a d => ∃ i, ItemOk a i ∧ d = encItem i)
theorem ok_item (B : Bi mg) {f : Addr} {fd : FuncData} (D : Df K mg "_law_item" s__law_item f fd ["_law_pen_here", "_law_house_here"]) (C1 : Cal P w K mg base "_law_draw" s__law_draw ["_law_pen_here", "_law_many"] 2 (spDraw T)) :
    Cal P w K mg base "_law_item" s__law_item ["_law_pen_here", "_law_house_here"] 3 (spItem T) := by
  obtain ⟨fa, fda, D_draw, G_draw⟩ := C1
  refine ⟨f, fd, D, D.F.ok sc__law_item (fun vs H Q E h => ?_) (fun cdv A outer s H vs Q E hr h => ?_)⟩
  · obtain ⟨a, P, h1, _⟩ := h
    exact h1.len
  · obtain ⟨h, Pn, ho, F0, k⟩ := SpP.ent (N := ["_law_pen_here", "_law_house_here", "_law_cell", "_law_kind"]) h (fun _ => Nat.le_of_ble_eq_true rfl)
    refine ⟨_, (pss_cons (ps_par (i := 2) (j := 3) rfl sc__law_item.nd rfl rfl (by decide) rfl rfl (pa_cons (pe_call G_draw (hr.mono (by omega)) (by rfl) D_draw.m D_draw.F.kp D_draw.b .nil pass0 (pa_cons (pv 0) (pa_cons (pe_callB call_len_seq (by rfl) B.len PySem.boot_len (pa_cons (pe_ix ix_tup (pv 1) pe_int (fun _ _ => rfl)) pa_nil)) pa_nil))) (pa_cons (pe_call G_draw (hr.mono (by omega)) (by rfl) D_draw.m D_draw.F.kp D_draw.b .nil pass0 (pa_cons (pv 0) (pa_cons pe_int pa_nil))) pa_nil)) (by rfl))
      (pss_cons (ps_if (PW.pt (pw_and (pt_cmpR (op_neD hr.units) (pe_ix ix_tup (pv 1) pe_int (fun _ _ => rfl)) (pe_tup pa_nil) (nomark _)) (pw_and1 (pt_cmpR op_lt (pv 3) pe_int (nomark _))))) (pss_one (ps_ret (pe_tup (pa_cons (pe_ix ix_list (pe_lst (pa_cons pe_str (pa_cons pe_str (pa_cons pe_str pa_nil)))) (pv 3) (fun _ _ => rfl)) (pa_cons (pe_call G_draw (hr.mono (by omega)) (by rfl) D_draw.m D_draw.F.kp D_draw.b .nil pass0 (pa_cons (pv 0) (pa_cons (pe_callB call_len_seq (by rfl) B.len PySem.boot_len (pa_cons (pe_ix ix_tup (pv 1) pe_int (fun _ _ => rfl)) pa_nil)) pa_nil))) pa_nil))))) pss_nil)
      (pss_cons (ps_if (pt_cmpR op_lt (pv 3) pe_int (nomark _)) (pss_one (ps_ret (pe_tup (pa_cons pe_str (pa_cons (pv 2) pa_nil))))) pss_nil)
      (pss_one (ps_ret (pe_ifExp (pt_cmpR op_lt (pv 3) pe_int (nomark _)) (pe_tup (pa_cons pe_str (pa_cons (pe_call G_draw (hr.mono (by omega)) (by rfl) D_draw.m D_draw.F.kp D_draw.b .nil pass0 (pa_cons (pv 0) (pa_cons (pe_callB call_len_seq (by rfl) B.len PySem.boot_len (pa_cons (pe_ix ix_tup (pv 1) pe_int (fun _ _ => rfl)) pa_nil)) pa_nil))) pa_nil))) (pe_tup (pa_cons pe_str pa_nil)))))))), ?_⟩
    have s1 := ho.s1
    have s3 := ho.s3
    have q3 := ho.q3
    have d6 := ho.dmost
    refine sq (st_par (Pd := fun d => ∃ r : Nat, r < h.sizes.length ∧ d = dN r) (Pe := fun _ d => ∃ r : Nat, r < 8 ∧ d = dN r) F0 (ev_dr (n := h.sizes.length) rfl ((ev_lenT (ev_ix (ev_v rfl) ev_i rfl)).to (by rw [List.length_map])) s1 (by omega)) ((ev_dr (n := 8) rfl ev_i (by decide)).imp fun d e x _ => e) fun v1 w1 x1 y1 H1 e1 F1 ⟨c, hc, p1⟩ ⟨kd, hk, p2⟩ => ?_)
    subst p1
    subst p2
    dsimp only
    refine sq (st_if F1 (Pb := fun b => b = true → h.deeds ≠ [] ∧ kd < 3) (et_and (Pa := fun b => b = !h.deeds.isEmpty) (Pb := fun b => b = decide ((kd : Int) < 3)) ((et (ev_neD (ev_ix (ds := [dNs h.sizes, .tuple (h.nodes.map encNode), dNs h.qs, .tuple (h.deeds.map encDeed)]) (ev_v rfl) ev_i rfl) (ev_tup eu_nil) ?_ (by decide +kernel))).imp fun b e => by rw [e, eqv_nil]; cases h.deeds <;> rfl) (fun _ => et (ev_lt (ev_v rfl) ev_i)) (fun _ z => nomatch z) (fun p b pb eb => ⟨(fun e => by rw [e] at p; cases p), (by rw [eb] at pb; have := of_decide_eq_true pb.symm; omega)⟩)) (fun H2 e2 F2 p2 => ?_) fun H2 e2 F2 _ => ?_)
    · exact (sh_deeds ho).shaped
    · obtain ⟨hne, hk3⟩ := p2 rfl
      refine st_ret F2 (ev_tupX (eu_cons (ev_ixKX (Pd := fun d => d = .str "deed" ∨ d = .str "perhaps") (el_lst (Pr := fun l => l = [.str "deed", .str "deed", .str "perhaps"]) (eu_c ev_s (eu_c ev_s (eu_c ev_s eu_nil))) (fun ds e => by rw [e]; exact Nat.le_of_ble_eq_true rfl)).k (ev_v (x := dN kd) rfl).ev fun ds y e1 ey => ?_) (eu_cons (ev_dr (n := h.deeds.length) rfl ((ev_lenT (ev_ix (ds := [dNs h.sizes, .tuple (h.nodes.map encNode), dNs h.qs, .tuple (h.deeds.map encDeed)]) (ev_v rfl) ev_i rfl)).to (by rw [List.length_map])) (List.length_pos_iff.mpr hne) (by omega)) eu_nil)) ?_) fun v d H3 e3 r3 ⟨ds, ed, d1, r1, q1, q2, d2, r2, q3, ⟨u, hu, q4⟩, q5⟩ => ?_
      · subst e1
        match kd, hk3 with
        | 0, _ => exact ⟨0, _, ey, rfl, .inl rfl⟩
        | 1, _ => exact ⟨1, _, ey, rfl, .inl rfl⟩
        | 2, _ => exact ⟨2, _, ey, rfl, .inr rfl⟩
      · rintro ds ⟨d1, r1, rfl, _, d2, r2, rfl, _, rfl⟩
        exact Nat.le_of_ble_eq_true rfl
      · subst q5 q4 q3 q1
        rcases q2 with rfl | rfl
        · exact k v d H3 e3 r3 ⟨.deed u, hu, ed⟩
        · exact k v d H3 e3 r3 ⟨.perhaps u, hu, ed⟩
    · dsimp only [tNext]
      refine sq (st_if F2 (Pb := fun _ => True) ((et (ev_lt (ev_v (x := dN kd) rfl) ev_i)).imp fun _ _ => trivial) (fun H3 e3 F3 _ => ?_) fun H3 e3 F3 _ => ?_)
      · exact st_ret F3 (ev_tup (eu_c ev_s (eu_c (ev_v rfl) eu_nil))).ev fun v d H4 e4 r4 p4 => k v d H4 e4 r4 ⟨.stir c, hc, p4⟩
      · dsimp only [tNext]
        refine st_ret F3 (ev_if (Pb := fun _ => True) ((et (ev_lt (ev_v (x := dN kd) rfl) ev_i)).imp fun _ _ => trivial) (fun _ => (ev_tupX (eu_cons ev_s.ev (eu_cons (ev_dr (n := h.qs.length) rfl ((ev_lenT (ev_ix (ev_v rfl) ev_i rfl)).to (by rw [List.length_map])) ho.q1 (by omega)) eu_nil)) ?_).imp fun d ⟨ds, ed, d1, r1, q1, q2, d2, r2, q3, ⟨u, hu, q4⟩, q5⟩ => ⟨.ask u, hu, by subst q5 q4 q3 q2 q1; exact ed⟩) (fun _ => (ev_tup (eu_c ev_s eu_nil)).ev.imp fun d e => ⟨.rest, trivial, e⟩)) k
        rintro ds ⟨d1, r1, rfl, _, d2, r2, rfl, _, rfl⟩
        exact Nat.le_of_ble_eq_true rfl
/-! ### a route drawn -/
theorem el_listRg {po : Option PenD} {Hb : Hp} {gs : List (V × AV)} {env : List AV} {ta tb : TE} {a b : Nat} (h1 : EvD T po Hb gs env ta (dN a)) (h2 : EvD T po Hb gs env tb (dN b)) (ha : a ≤ 16777216) (hb : b ≤ 16777216) : EvL T po Hb gs env (tLstRg (tRg2 ta tb)) (· = ((List.range (b - a)).map fun k => a + k).map dN) := fun σ H F Q q => by
  refine h1 σ H F _ fun v H1 e1 F1 r1 => h2 σ H1 F1 _ fun w H2 e2 F2 r2 => ?_
  obtain rfl := r1.i
  obtain rfl := r2.i
  refine ⟨a, b, rfl, rfl, RgOk.of_le (by omega) (by omega) (by omega) (by omega), fun l hl => ?_⟩
  have e3 : Ex T po H2 (upd H2 l (.lst (rgV a b))) := Ex.new hl
  refine q _ _ _ _ ((e1.trans e2).trans e3) (F2.mono e3) (e1.dom l (e2.dom l hl)) upd_same ?_ rfl
  have ev : rgV (a : Int) (b : Int) = ((List.range (b - a)).map fun k => ((a + k : Nat) : Int)).map V.int := by
    unfold rgV
    rw [List.map_map, show ((b : Int) - (a : Int)).toNat = b - a by omega]
    refine List.map_congr_left fun k _ => ?_
    show V.int ((a : Int) + (k : Nat)) = V.int ((a + k : Nat) : Int)
    congr 1
  have ed : ((List.range (b - a)).map fun k => a + k).map dN = ((List.range (b - a)).map fun k => ((a + k : Nat) : Int)).map PyData.int := by
    rw [List.map_map, List.map_map]
    rfl
  rw [ev, ed]
  exact DtA.of_ints _
def laterC (p m : Nat) : List Nat := 0 :: (List.range (m - (p + 1))).map fun k => p + 1 + k
theorem later_mem {p m n : Nat} (hm : 0 < m) (h : n ∈ laterC p m) : n < m ∧ (n = 0 ∨ p < n) := by
  rcases List.mem_cons.mp h with rfl | h
  · exact ⟨hm, .inl rfl⟩
  · obtain ⟨k, hk, rfl⟩ := List.mem_map.mp h
    have := List.mem_range.mp hk
    exact ⟨by omega, .inr (by omega)⟩
theorem later_nd (p m : Nat) : (laterC p m).Nodup := by
  refine List.nodup_cons.mpr ⟨fun h => ?_, ?_⟩
  · obtain ⟨k, _, e⟩ := List.mem_map.mp h
    omega
  · rw [List.nodup_iff_pairwise_ne, List.pairwise_map]
    exact List.Pairwise.imp (fun {a b} hab e => hab (by omega)) (List.nodup_iff_pairwise_ne.mp (List.nodup_range (n := m - (p + 1))))
theorem later_len (p m : Nat) : (laterC p m).length ≤ m + 1 := by
  unfold laterC
  rw [List.length_cons, List.length_map, List.length_range]
  omega
theorem cut_top {xs : List PyData} {c : Nat} : cutD xs none (.some (c : Int)) = xs.take c := by
  unfold cutD
  rw [HT.sIx_none, HT.sIx_nat]
  show (xs.drop 0).take (min c xs.length - 0) = _
  rw [List.drop_zero, Nat.sub_zero, List.take_eq_take_iff]
  omega
def spRoute (T : List (Addr × Str)) : Sp := SpP T (α := House × Nat) (fun a => [.d (encH a.1), .d (dN a.2)]) (fun a => HouseOk a.1 ∧ 1 ≤ a.2 ∧ a.2 ≤ 2) (fun a d => ∃ r, RouteOk a.1 r ∧ d = encR r)
def NextsOk (p m : Nat) (ns : List Nat) : Prop := ns ≠ [] ∧ ns.length ≤ 3 ∧ ns.Nodup ∧ ∀ n ∈ ns, n < m ∧ (n = 0 ∨ p < n)
theorem ok_route (B : Bi mg) {f : Addr} {fd : FuncData} (D : Df K mg "_law_route" s__law_route f fd ["_law_pen_here", "_law_house_here", "_law_most"]) (C1 : Cal P w K mg base "_law_draw" s__law_draw ["_law_pen_here", "_law_many"] 2 (spDraw T)) (C2 : Cal P w K mg base "_law_one_of" s__law_one_of ["_law_pen_here", "_law_rows"] 3 (spOneOf T))
    (C3 : Cal P w K mg base "_law_item" s__law_item ["_law_pen_here", "_law_house_here"] 3 (spItem T)) : Cal P w K mg base "_law_route" s__law_route ["_law_pen_here", "_law_house_here", "_law_most"] 4 (spRoute T) := by
  obtain ⟨fa, fda, D_draw, G_draw⟩ := C1
  obtain ⟨fb, fdb, D_one_of, G_one_of⟩ := C2
  obtain ⟨fc, fdc, D_item, G_item⟩ := C3
  refine ⟨f, fd, D, D.F.ok sc__law_route (fun vs H Q E h => ?_) (fun cdv A outer s H vs Q E hr h => ?_)⟩
  · obtain ⟨a, P, h1, _⟩ := h
    exact h1.len
  · obtain ⟨⟨h, most⟩, Pn, ⟨ho, hm1, hm2⟩, F0, k⟩ := SpP.ent (N := ["_law_pen_here", "_law_house_here", "_law_most", "_law_many", "_law_found", "_law_place", "_law_later", "_law_nexts_here", "_law_one"]) h (fun _ => Nat.le_of_ble_eq_true rfl)
    dsimp only at *
    refine ⟨_, (pss_cons (ps_par (i := 3) (j := 4) rfl sc__law_route.nd rfl rfl (by decide) rfl rfl (pa_cons (pe_op op_add pe_int (pe_call G_draw (hr.mono (by omega)) (by rfl) D_draw.m D_draw.F.kp D_draw.b .nil pass0 (pa_cons (pv 0) (pa_cons (pv 2) pa_nil)))) (pa_cons (pe_lst pa_nil) pa_nil)) (by rfl))
      (pss_cons (ps_for PassesOwn.never rfl (pi_range1 (by rfl) B.range (pa_cons (pv 3) pa_nil)) (pg_name (i := 5) sc__law_route.nd rfl (Or.inl rfl)) (pss_cons (ps_set (i := 6) sc__law_route.nd rfl (Or.inl rfl) (pe_op op_cat (pe_lst (pa_cons pe_int pa_nil)) (pe_listRg rfl (by rfl) B.list (prg_2 (by rfl) B.range (pe_op op_add (pv 5) pe_int) (pv 3)))))
      (pss_cons (ps_setLc (i := 7) (own := [("_law_one", 8)]) (g := gName 8) rfl sc__law_route.nd rfl rfl (sw_true rfl rfl rfl (by decide +kernel)) (pi_list (pv 6)) (blkOk_by (N := ["_law_pen_here", "_law_house_here", "_law_most", "_law_many", "_law_found", "_law_place", "_law_later", "_law_nexts_here", "_law_one"]) (sc := defScope s__law_route) (by decide +kernel)) (fun _ _ _ _ _ => (pg_name (i := 8) sc__law_route.nd rfl (Or.inl rfl))) (fun _ _ _ _ _ => (pts_one (pt_cmpR op_eq (pe_call G_draw (hr.mono (by omega)) (by rfl) D_draw.m D_draw.F.kp D_draw.b .nil pass0 (pa_cons (pv 0) (pa_cons pe_int pa_nil))) pe_int (nomark _)))) (fun _ _ _ _ _ => (pv 8)))
      (pss_one (ps_expr (pe_bm PySem.F.plainAttrs_list PySem.F.slot_list_append PySem.F.type_list_append mt_append (pv 4) (pa_cons (pe_tup (pa_cons (pe_call G_item (hr.mono (by omega)) (by rfl) D_item.m D_item.F.kp D_item.b .nil pass0 (pa_cons (pv 0) (pa_cons (pv 1) pa_nil))) (pa_cons (pe_tupleOf (by rfl) B.tuple (pe_ifExp (pt_cmpR (op_neD hr.units) (pv 7) (pe_lst pa_nil) (nomark _)) (pe_slice sl_list (pv 7) po_none (po_some pe_int)) (pe_lst (pa_cons (pe_call G_one_of (hr.mono (by omega)) (by rfl) D_one_of.m D_one_of.F.kp D_one_of.b .nil pass0 (pa_cons (pv 0) (pa_cons (pv 6) pa_nil))) pa_nil)))) pa_nil))) pa_nil)))))))
      (pss_one (ps_ret (pe_tupleOf (by rfl) B.tuple (pv 4)))))), ?_⟩
    refine sq (st_parDL (Pd := fun d => ∃ m : Nat, d = dN m ∧ 1 ≤ m ∧ m ≤ 2) (Pl := fun l => l = []) F0 ((ev_addP (R := fun z => z = 1) (S := fun z => 0 ≤ z ∧ z < 2) (U := fun z => 1 ≤ z ∧ z ≤ 2) (ev_i.ip rfl) ((ev_dr (n := most) rfl (ev_v rfl) hm1 (by omega)).imp fun d ⟨r, hr, e⟩ => (⟨r, e, by omega, by omega⟩ : IntP (fun z => 0 ≤ z ∧ z < 2) d)) (fun i j h1 h2 => by omega)).imp fun d ⟨z, e, h1, h2⟩ => ⟨z.toNat, by rw [e]; congr 1; omega, by omega, by omega⟩) (el_lst eu_nil (fun ds e => by rw [e]; decide)) fun v0 a0 x0 ds0 H1 e1 F1 ⟨m, p1, hm3, hm4⟩ p2 => ?_)
    subst p1
    subst p2
    dsimp only
    refine sq (st_forR (Pd := fun d => d = dN m) (fun n j env' σ' H' => ∃ (r : Route) (x5 x6 x7 x8 : AV), r.length = j ∧ (∀ p ∈ r, ItemOk h p.1) ∧ (∀ i it ns, r[i]? = some (it, ns) → NextsOk i m ns) ∧ env' = [.r (.ref Pn.p), .d (encH h), .d (dN most), .d (dN m), .l (r.map encPlace), x5, x6, x7, x8]) F1 (ev_v rfl).ev (fun d e => ⟨m, e, by omega⟩) (fun n H' e p => ⟨[], _, _, _, _, rfl, fun _ z => (nomatch z), fun i it ns h => by simp at h, rfl⟩) (fun n j env' σ' H' p hk F' hI => ?_) (fun n env' σ' H' p F' hI => ?_))
    · obtain ⟨r, x5, x6, x7, x8, hlen, hit, hns, rfl⟩ := hI
      have enm : n = m := by have := PyData.int.inj p; omega
      subst enm
      refine gN F' (.int _) fun F2 => ?_
      have lm := later_len j n
      refine sq (st_setL (Pl := fun l => l = (laterC j n).map dN) F2 ((el_cat (el_lst (eu_c (d := dN 0) ev_i eu_nil) (fun ds e => by rw [e]; exact Nat.le_of_ble_eq_true rfl)) (el_listRg (a := j + 1) (b := n) ((ev_add (ev_v (x := dN j) rfl) ev_i).to (congrArg PyData.int (by omega))) (ev_v rfl) (by omega) (by omega)) (fun xs ys e1 e2 => by rw [e1, e2, List.length_map, List.length_map, List.length_range]; show 1 + _ ≤ _; omega)).imp fun l ⟨xs, ys, e1, e2, e3⟩ => by rw [e1, e2, e3]; rfl) fun a6 ds6 H3 e3 F3 n3 p3 => ?_)
      subst p3
      dsimp only
      refine sq (st_setL F3 (el_compK (Pl := fun l => l = (laterC j n).map dN) (fun _ _ => True) (fun d e => e = d) (ek_l rfl) (fun ds e => by rw [e, List.length_map]; omega) (fun ds e d hd => etX (ev_eqII ((ev_dr (n := 3) rfl ev_i (by decide)).imp fun d ⟨r, _, e⟩ => ⟨_, e⟩) ev_i.isI)) (fun ds e d hd _ => (ev_v (x := d) rfl).ev)) fun a7 ds7 H4 e4 F4 n4 ⟨ds, p4, hR⟩ => ?_)
      subst p4
      obtain ⟨l, hl, el⟩ := List.sublist_map_iff.mp hR.sub
      subst el
      dsimp only
      refine st_app F4 (i := 4) rfl (by rw [List.length_map]; omega) (ev_tupX (eu_cons (ev_p (args := fun a : House => [.d (encH a)]) h (ea_r rfl (ea_c (ev_v rfl) ea_nil)) ho) (eu_cons (ev_tuple (ek_if (Pb := fun b => b = !l.isEmpty) (Pl := fun ds => ∃ ns, NextsOk j n ns ∧ ds = ns.map dN) (etX (Pb := fun b => b = !l.isEmpty) ((ev_neL (ek_l rfl) fun ds e => ?_).imp fun d ⟨ds, e1, e2⟩ => ⟨_, e2, by rw [e1]; cases l <;> rfl⟩)) (fun pb => (el_slK (ek_l rfl) eo_none (eo_some (ev_i (i := 3)))).k.imp fun ds ⟨xs, e1, e2⟩ => ⟨l.take 3, ⟨?_, ?_, ?_, ?_⟩, ?_⟩) (fun pb => (el_lst (eu_cons (ev_oneK (ds := (laterC j n).map dN) rfl (ek_l rfl) (fun z => nomatch z) (by rw [List.length_map]; omega)) eu_nil) (fun ds ⟨d, r, e, _, e2⟩ => by rw [e, e2]; exact Nat.le_of_ble_eq_true rfl)).k.imp fun ds ⟨d, r, e1, e2, e3⟩ => ?_))) eu_nil)) ?_) fun d5 H5 F5 tk ⟨ds, ed, d1, r1, q1, ⟨it, hi1, q2⟩, d2, r2, q3, ⟨ds8, ⟨ns, hn1, q4⟩, q5⟩, q6⟩ => ?_
      · rw [e]
        refine (sh_lst (n := 0) fun d hd => ?_).shaped
        obtain ⟨x, hx, rfl⟩ := List.mem_map.mp hd
        exact sh_N _ _
      · cases l with
        | nil => cases pb
        | cons a l => exact fun z => nomatch z
      · rw [List.length_take]
        omega
      · exact ((List.take_sublist 3 l).trans hl).nodup (later_nd j n)
      · exact fun x hx => later_mem (by omega) (((List.take_sublist 3 l).trans hl).subset hx)
      · rw [e2, e1, show (3 : Int) = ((3 : Nat) : Int) from rfl, cut_top, List.map_take]
      · obtain ⟨x, hx, ex⟩ := List.mem_map.mp e2
        refine ⟨[x], ⟨(fun z => nomatch z), Nat.le_of_ble_eq_true rfl, List.nodup_cons.mpr ⟨(fun z => nomatch z), List.Pairwise.nil⟩, fun y hy => ?_⟩, by rw [e1, e3, ← ex]; rfl⟩
        rw [List.mem_singleton.mp hy]
        exact later_mem (by omega) hx
      · rintro ds ⟨d1, r1, rfl, _, d2, r2, rfl, _, rfl⟩
        exact Nat.le_of_ble_eq_true rfl
      · subst q6 q5 q4 q3 q2 q1 ed
        refine ⟨_, F5, r ++ [(it, ns)], _, _, _, _, by rw [List.length_append, hlen]; rfl, fun p hp => ?_, fun i it2 ns2 hi => ?_, by rw [List.map_append]; rfl⟩
        · rcases List.mem_append.mp hp with hp | hp
          · exact hit p hp
          · rw [List.mem_singleton.mp hp]
            exact hi1
        · by_cases hlt : i < r.length
          · rw [List.getElem?_append_left hlt] at hi
            exact hns i it2 ns2 hi
          · rw [List.getElem?_append_right (Nat.le_of_not_lt hlt)] at hi
            obtain ⟨h1, h2⟩ := List.getElem?_eq_some_iff.mp hi
            rw [List.length_singleton] at h1
            have e0 : i - r.length = 0 := by omega
            rw [e0] at hi
            cases hi
            have ei : i = j := by omega
            subst ei
            exact hn1
    · obtain ⟨r, x5, x6, x7, x8, hlen, hit, hns, rfl⟩ := hI
      have enm : n = m := by have := PyData.int.inj p; omega
      subst enm
      refine st_ret F' ((ev_tuple (ek_l rfl)).imp fun d ⟨ds, e1, e2⟩ => ⟨r, ⟨by omega, by omega, hit, fun i it ns hi => ?_⟩, by rw [e2, e1]⟩) k
      obtain ⟨h1, h2, h3, h4⟩ := hns i it ns hi
      exact ⟨h1, h2, h3, fun n hn => ⟨by have := (h4 n hn).1; omega, (h4 n hn).2⟩⟩
/-! ### behind -/
def spBehind (T : List (Addr × Str)) : Sp := SpD T (α := House × Item × List Con) (fun a => [.d (encH a.1), .d (encItem a.2.1), .d (encS a.2.2)]) (fun a => HouseOk a.1 ∧ ItemOk a.1 a.2.1 ∧ SetG a.1 a.2.2) (fun a d => d = encS (behindC a.1 a.2.1 a.2.2))
theorem ev_doneL {po : Option PenD} {Hb : Hp} {gs : List (V × AV)} {env : List AV} {E : XK} {th tk tx : TE} {h : House} {k : Nat} {x : Con} (h1 : EvD T po Hb gs env th (encH h)) (h2 : EvD T po Hb gs env tk (dN k)) (h3 : EvD T po Hb gs env tx (encC x)) (ho : HouseOk h) (hk : k < h.deeds.length) (hx : ConOk h.sizes x) :
    EvD T po Hb gs env (tCall (spDone T) [] E (tCons th (tCons tk (tCons tx tNil)))) (encC (doneC h k x)) :=
  Ev.one (ev_c (args := fun a : House × Nat × Con => [.d (encH a.1), .d (dN a.2.1), .d (encC a.2.2)]) (h, k, x) (ea_c h1 (ea_c h2 (ea_c h3 ea_nil))) ⟨ho, hk, hx⟩)
/-- tuple(sorted(set(contents))) -/
theorem ev_normL {po : Option PenD} {Hb : Hp} {gs : List (V × AV)} {env : List AV} {te : TE} {h : House} {s : List Con} (ho : HouseOk h) (hl : s.length < 64) (ha : ∀ x ∈ s, ConOk h.sizes x) (he : EvK T po Hb gs env te (· = s.map encC)) :
    EvD T po Hb gs env (tThen (tCB (rSortedT K P w) (tCons (tCB (rSetOfT K P w) (tCons te tNil)) tNil)) (kTup K)) (encS (norm s)) :=
  Ev.one ((ev_tuple (el_sortSet (Ps := (· = s)) (he.imp fun ds e => ⟨s, e, rfl⟩) (fun s' e => by subst e; exact ⟨hl, _, ho.s1, csm_of ho ha⟩)).k).imp fun d ⟨ds, ⟨s', r, e1, e2, e3⟩, e4⟩ => by
    subst e1
    rw [e4, e2, IsSet.is e3 (csm_of ho ha)])
theorem ok_behind (B : Bi mg) {f : Addr} {fd : FuncData} (D : Df K mg "_law_behind" s__law_behind f fd ["_law_house_here", "_law_item_here", "_law_some"]) (C1 : Cal P w K mg base "_law_done" s__law_done ["_law_house_here", "_law_deed", "_law_content"] 1 (spDone T)) :
    Cal P w K mg base "_law_behind" s__law_behind ["_law_house_here", "_law_item_here", "_law_some"] 2 (spBehind T) := by
  obtain ⟨fa, fda, D_done, G_done⟩ := C1
  refine ⟨f, fd, D, D.F.ok sc__law_behind (fun vs H Q E h => ?_) (fun cdv A outer s H vs Q E hr h => ?_)⟩
  · obtain ⟨a, h1, _⟩ := h
    exact h1.len
  · obtain ⟨⟨h, i, ss⟩, ⟨ho, hi, hg⟩, F0, k⟩ := SpD.ent (N := ["_law_house_here", "_law_item_here", "_law_some", "_law_content", "_law_found", "_law_cells", "_law_value"]) h (fun _ => Nat.le_of_ble_eq_true rfl)
    dsimp only at *
    refine ⟨_, (pss_cons (ps_if (pt_cmpR op_eq (pe_ix ix_tup (pv 1) pe_int (fun _ _ => rfl)) pe_str (nomark _)) (pss_one (ps_ret (pe_tupleOf (by rfl) B.tuple (pe_callB (cr_sortedT rfl) (by rfl) B.sorted (by decide +kernel) (pa_cons (pe_callTy (cr_setOfT rfl hr.units) (by rfl) B.set (by decide +kernel) (pa_cons (pe_lc (own := [("_law_content", 3)]) (g := gName 3) rfl sc__law_behind.nd (pi_tup (pv 2)) (blkOk_by (N := ["_law_house_here", "_law_item_here", "_law_some", "_law_content", "_law_found", "_law_cells", "_law_value"]) (sc := defScope s__law_behind) (by decide +kernel)) (fun _ _ _ _ _ => (pg_name (i := 3) sc__law_behind.nd rfl (Or.inl rfl))) (fun _ _ _ _ _ => pts_nil) (fun _ _ _ _ _ => (pe_call G_done (hr.mono (by omega)) (by rfl) D_done.m D_done.F.kp D_done.b .nil pass0 (pa_cons (pv 0) (pa_cons (pe_ix (ixT K) (pv 1) pe_int (fun _ _ => rfl)) (pa_cons (pv 3) pa_nil)))))) pa_nil)) pa_nil))))) pss_nil)
      (pss_cons (ps_if (pt_cmpR op_eq (pe_ix ix_tup (pv 1) pe_int (fun _ _ => rfl)) pe_str (nomark _)) (pss_one (ps_ret (pe_tupleOf (by rfl) B.tuple (pe_callB (cr_sortedT rfl) (by rfl) B.sorted (by decide +kernel) (pa_cons (pe_callTy (cr_setOfT rfl hr.units) (by rfl) B.set (by decide +kernel) (pa_cons (pe_op op_cat (pe_callTy call_list_of (by rfl) B.list PyProof.Rows.boot_list (pa_cons (pv 2) pa_nil)) (pe_lc (own := [("_law_content", 3)]) (g := gName 3) rfl sc__law_behind.nd (pi_tup (pv 2)) (blkOk_by (N := ["_law_house_here", "_law_item_here", "_law_some", "_law_content", "_law_found", "_law_cells", "_law_value"]) (sc := defScope s__law_behind) (by decide +kernel)) (fun _ _ _ _ _ => (pg_name (i := 3) sc__law_behind.nd rfl (Or.inl rfl))) (fun _ _ _ _ _ => pts_nil) (fun _ _ _ _ _ => (pe_call G_done (hr.mono (by omega)) (by rfl) D_done.m D_done.F.kp D_done.b .nil pass0 (pa_cons (pv 0) (pa_cons (pe_ix (ixT K) (pv 1) pe_int (fun _ _ => rfl)) (pa_cons (pv 3) pa_nil))))))) pa_nil)) pa_nil))))) pss_nil)
      (pss_cons (ps_if (pt_cmpR op_eq (pe_ix ix_tup (pv 1) pe_int (fun _ _ => rfl)) pe_str (nomark _)) (pss_cons (ps_set (i := 4) sc__law_behind.nd rfl (Or.inl rfl) (pe_lst pa_nil))
      (pss_cons (ps_for PassesOwn.never rfl (pi_tup (pv 2)) (pg_name (i := 3) sc__law_behind.nd rfl (Or.inr rfl)) (pss_cons (ps_setLc (i := 5) (own := [("_law_value", 6)]) (g := gName 6) rfl sc__law_behind.nd rfl rfl (sw_true rfl rfl rfl (by decide +kernel)) (pi_range1 (by rfl) B.range (pa_cons (pe_ix ix_tup (pe_ix ix_tup (pv 0) pe_int (fun _ _ => rfl)) (pe_ix ix_tup (pv 1) pe_int (fun _ _ => rfl)) (fun _ _ => rfl)) pa_nil)) (blkOk_by (N := ["_law_house_here", "_law_item_here", "_law_some", "_law_content", "_law_found", "_law_cells", "_law_value"]) (sc := defScope s__law_behind) (by decide +kernel)) (fun _ _ _ _ _ => (pg_name (i := 6) sc__law_behind.nd rfl (Or.inl rfl))) (fun _ _ _ _ _ => pts_nil) (fun _ _ _ _ _ => (pe_op (catT K) (pe_op (catT K) (pe_slice (slT K) (pv 3) po_none (po_some (pe_ix (ixT K) (pv 1) pe_int (fun _ _ => rfl)))) (pe_tup (pa_cons (pv 6) pa_nil))) (pe_slice (slT K) (pv 3) (po_some (pe_op op_add (pe_ix (ixT K) (pv 1) pe_int (fun _ _ => rfl)) pe_int)) po_none))))
      (pss_one (ps_expr (pe_bm PySem.F.plainAttrs_list PySem.F.slot_list_extend PySem.F.type_list_extend mt_extend (pv 4) (pa_cons (pv 5) pa_nil))))))
      (pss_one (ps_ret (pe_tupleOf (by rfl) B.tuple (pe_callB (cr_sortedT rfl) (by rfl) B.sorted (by decide +kernel) (pa_cons (pe_callTy (cr_setOfT rfl hr.units) (by rfl) B.set (by decide +kernel) (pa_cons (pv 4) pa_nil)) pa_nil))))))) pss_nil)
      (pss_one (ps_ret (pv 2)))))), ?_⟩
    have l8 := hg.le8 ho
    have no : ∀ {gs : List (V × AV)} {env : List AV} {te : TE} {wd : Str} {rest : List PyData} {u : Str} {b : Bool}, EvD T none H gs env te (.tuple (.str wd :: rest)) → decide (wd = u) = b → EvT T none H gs env (tTest (tOp rEq (tOp (rIxT K) te (tC (.int 0))) (tC (.str u)))) (· = b) := fun he hb => et (ev_eqStrB (ev_ix he ev_i (atI_nat (j := 0) rfl)) ev_s hb)
    cases i with
    | deed kk =>
      refine sq (st_yes F0 (no (wd := "deed") (rest := [dN kk]) (ev_v rfl) (by decide +kernel)) fun H1 e1 F1 => ?_)
      dsimp only
      exact st_ret F1 (ev_normL ho (by rw [List.length_map]; omega) (done_all ho hi hg.all) ((el_mapE (enc := encC) (f := fun x => encC (doneC h kk x)) (fun x _ y _ e => by rw [encC_inj e]) (ev_v rfl) (by omega) fun x hx => ev_doneL (ev_v rfl) (ev_ix (ds := [.str "deed", dN kk]) (ev_v rfl) ev_i rfl) (ev_v rfl) ho hi (hg.all x hx)).k.imp fun ds e => by rw [e, List.map_map]; rfl)).ev k
    | perhaps kk =>
      refine sq (st_no F0 (no (wd := "perhaps") (rest := [dN kk]) (ev_v rfl) (by decide +kernel)) fun H1 e1 F1 => ?_)
      dsimp only [tNext]
      refine sq (st_yes F1 (no (wd := "perhaps") (rest := [dN kk]) (ev_v rfl) (by decide +kernel)) fun H2 e2 F2 => ?_)
      dsimp only
      refine st_ret F2 (ev_normL (s := ss ++ ss.map (doneC h kk)) ho (by rw [List.length_append, List.length_map]; omega) (fun x hx => (List.mem_append.mp hx).elim (hg.all x) (done_all ho hi hg.all x)) ((el_cat (el_listT (ev_v rfl)) (el_mapE (enc := encC) (f := fun x => encC (doneC h kk x)) (fun x _ y _ e => by rw [encC_inj e]) (ev_v rfl) (by omega) fun x hx => ev_doneL (ev_v rfl) (ev_ix (ds := [.str "perhaps", dN kk]) (ev_v rfl) ev_i rfl) (ev_v rfl) ho hi (hg.all x hx)) (fun xs ys e1 e2 => by rw [e1, e2, List.length_map, List.length_map]; omega)).k.imp fun ds ⟨xs, ys, e1, e2, e3⟩ => by rw [e1, e2, e3, List.map_append, List.map_map]; rfl)).ev k
    | stir c =>
      have hz := at_sz hi 0
      have hz4 := ho.sz _ (List.mem_of_getElem? hz)
      have bound : ∀ r : List Con, (stirC h c r).length ≤ r.length * 4 := fun r => stir_len hz4.2 r
      refine sq (st_no F0 (no (wd := "stir") (rest := [dN c]) (ev_v rfl) (by decide +kernel)) fun H1 e1 F1 => ?_)
      dsimp only [tNext]
      refine sq (st_no F1 (no (wd := "stir") (rest := [dN c]) (ev_v rfl) (by decide +kernel)) fun H2 e2 F2 => ?_)
      dsimp only [tNext]
      refine sq (st_yes F2 (no (wd := "stir") (rest := [dN c]) (ev_v rfl) (by decide +kernel)) fun H3 e3 F3 => ?_)
      dsimp only
      refine sq (st_setL F3 (el_lst eu_nil (fun ds e => by rw [e]; decide)) fun a0 ds0 H4 e4 F4 n4 p4 => ?_)
      subst p4
      dsimp only
      refine sq (st_forT (ds := ss.map encC) (fun n env' σ' H' => ∃ x4 x5 x6, env' = [.d (encH h), .d (encItem (.stir c)), .d (encS ss), x4, .l ((stirC h c (ss.take n)).map encC), x5, x6]) F4 (ev_v rfl) (fun H2 e2 => ⟨_, _, _, rfl⟩) (fun v0 n d v env' σ' H' hd F' hI hv => ?_) (fun env' σ' H' F' hI => ?_))
      · obtain ⟨x4, x5, x6, rfl⟩ := hI
        rw [List.getElem?_map] at hd
        obtain ⟨x, hx, rfl⟩ := Option.map_eq_some_iff.mp hd
        have hxo := hg.all x (List.mem_of_getElem? hx)
        have hxc := hxo.get hz
        have hn : n < ss.length := (List.getElem?_eq_some_iff.mp hx).1
        have b1 := bound (ss.take n)
        rw [List.length_take] at b1
        have hx3 : x.length ≤ 3 := by rw [hxo.1]; exact ho.s3
        have l1 : ∀ lo hi, (cutD (x.map dN) lo hi).length ≤ 3 := fun lo hi => by
          unfold cutD
          rw [List.length_take, List.length_drop, List.length_map]
          omega
        refine gN F' hv fun F2 => ?_
        refine sq (st_setL F2 (el_mapR (n := h.sizes.getD c 0) (f := fun v => encC (x.set c v)) (ev_ix (ev_ix (ev_v rfl) ev_i rfl) (ev_ix (ds := [.str "stir", dN c]) (ev_v rfl) ev_i rfl) (at_N hz)) (by omega) fun v hv => (ev_cat (ev_cat (ev_slT (ds := x.map dN) (ev_v rfl) eo_none (eo_some (ev_ix (ds := [.str "stir", dN c]) (ev_v rfl) ev_i rfl))) (ev_tup (eu_c (ev_v rfl) eu_nil)) ?_) (ev_slT (ds := x.map dN) (ev_v rfl) (eo_some (ev_add (ev_ix (ds := [.str "stir", dN c]) (ev_v rfl) ev_i rfl) ev_i)) eo_none) ?_).to (set_data hxc.2.2)) fun a4 ds4 H5 e5 F5 n5 p5 => ?_)
        · have := l1 none (.some (c : Int))
          show _ + 1 ≤ _
          omega
        · rw [List.length_append]
          have := l1 none (.some (c : Int))
          have := l1 (.some ((c : Int) + 1)) none
          show _ + 1 + _ ≤ _
          omega
        · subst p5
          dsimp only
          refine st_ext F5 (i := 4) rfl (fun ys e => ?_) (ek_l rfl) fun ys H6 F6 tk e => ?_
          · rw [e, List.length_map, List.length_map, List.length_range]
            omega
          · subst e
            have e : (stirC h c (ss.take n)).map encC ++ (List.range (h.sizes.getD c 0)).map (fun v => encC (x.set c v)) = (stirC h c (ss.take (n + 1))).map encC := by
              rw [take_snoc hx]
              unfold stirC
              rw [List.flatMap_append, List.map_append, List.flatMap_cons, List.flatMap_nil, List.append_nil, List.map_map]
              rfl
            rw [e] at F6
            exact ⟨_, F6, _, _, _, rfl⟩
      · obtain ⟨x4, x5, x6, rfl⟩ := hI
        rw [List.length_map, List.take_length] at F'
        have := bound ss
        dsimp only
        exact st_ret F' (ev_normL ho (by omega) (stir_all hi hg.all) (ek_l rfl)).ev k
    | ask q =>
      refine sq (st_no F0 (no (wd := "ask") (rest := [dN q]) (ev_v rfl) (by decide +kernel)) fun H1 e1 F1 => ?_)
      dsimp only [tNext]
      refine sq (st_no F1 (no (wd := "ask") (rest := [dN q]) (ev_v rfl) (by decide +kernel)) fun H2 e2 F2 => ?_)
      dsimp only [tNext]
      refine sq (st_no F2 (no (wd := "ask") (rest := [dN q]) (ev_v rfl) (by decide +kernel)) fun H3 e3 F3 => ?_)
      dsimp only [tNext]
      exact st_ret F3 (ev_v rfl).ev k
    | rest =>
      refine sq (st_no F0 (no (wd := "rest") (rest := []) (ev_v rfl) (by decide +kernel)) fun H1 e1 F1 => ?_)
      dsimp only [tNext]
      refine sq (st_no F1 (no (wd := "rest") (rest := []) (ev_v rfl) (by decide +kernel)) fun H2 e2 F2 => ?_)
      dsimp only [tNext]
      refine sq (st_no F2 (no (wd := "rest") (rest := []) (ev_v rfl) (by decide +kernel)) fun H3 e3 F3 => ?_)
      dsimp only [tNext]
      exact st_ret F3 (ev_v rfl).ev k
/-! ### parted -/
def spParted (T : List (Addr × Str)) : Sp := SpL T (α := House × List Con × Nat) (fun a => [.d (encH a.1), .d (encS a.2.1), .d (dN a.2.2)]) (fun a => HouseOk a.1 ∧ SetG a.1 a.2.1 ∧ a.2.2 < a.1.sizes.length) (fun a ds => ds = (partedC a.1 a.2.1 a.2.2).map encPart)
theorem ok_parted (B : Bi mg) {f : Addr} {fd : FuncData} (D : Df K mg "_law_parted" s__law_parted f fd ["_law_house_here", "_law_some", "_law_cell"]) : Cal P w K mg base "_law_parted" s__law_parted ["_law_house_here", "_law_some", "_law_cell"] 1 (spParted T) := by
  refine ⟨f, fd, D, D.F.ok sc__law_parted (fun vs H Q E h => ?_) (fun cdv A outer s H vs Q E hr h => ?_)⟩
  · obtain ⟨a, h1, _⟩ := h
    exact h1.len
  · obtain ⟨⟨h, ss, cc⟩, ⟨ho, hg, hc⟩, F0, k⟩ := SpL.ent (N := ["_law_house_here", "_law_some", "_law_cell", "_law_found", "_law_value", "_law_part", "_law_content"]) h (fun _ => Nat.le_of_ble_eq_true rfl)
    dsimp only at *
    refine ⟨_, (pss_cons (ps_set (i := 3) sc__law_parted.nd rfl (Or.inl rfl) (pe_lst pa_nil))
      (pss_cons (ps_for PassesOwn.never rfl (pi_range1 (by rfl) B.range (pa_cons (pe_ix ix_tup (pe_ix ix_tup (pv 0) pe_int (fun _ _ => rfl)) (pv 2) (fun _ _ => rfl)) pa_nil)) (pg_name (i := 4) sc__law_parted.nd rfl (Or.inr rfl)) (pss_cons (ps_set (i := 5) sc__law_parted.nd rfl (Or.inl rfl) (pe_tupleOf (by rfl) B.tuple (pe_lc (own := [("_law_content", 6)]) (g := gName 6) rfl sc__law_parted.nd (pi_tup (pv 1)) (blkOk_by (N := ["_law_house_here", "_law_some", "_law_cell", "_law_found", "_law_value", "_law_part", "_law_content"]) (sc := defScope s__law_parted) (by decide +kernel)) (fun _ _ _ _ _ => (pg_name (i := 6) sc__law_parted.nd rfl (Or.inl rfl))) (fun _ _ _ _ _ => (pts_one (pt_cmpR op_eq (pe_ix (ixT K) (pv 6) (pv 2) (fun _ _ => rfl)) (pv 4) (nomark _)))) (fun _ _ _ _ _ => (pv 6)))))
      (pss_one (ps_expr (pe_bm PySem.F.plainAttrs_list PySem.F.slot_list_extend PySem.F.type_list_extend mt_extend (pv 3) (pa_cons (pe_ifExp (pt_cmpR (op_neD hr.units) (pv 5) (pe_tup pa_nil) (nomark _)) (pe_lst (pa_cons (pe_tup (pa_cons (pv 4) (pa_cons (pv 5) pa_nil))) pa_nil)) (pe_lst pa_nil)) pa_nil))))))
      (pss_one (ps_ret (pv 3))))), ?_⟩
    have l8 := hg.le8 ho
    have hz := at_sz hc 0
    have hz4 := ho.sz _ (List.mem_of_getElem? hz)
    have few : ∀ j, j ≤ 4 → (((List.range j).flatMap (partV ss cc)).map encPart).length ≤ j := fun j hj => by
      rw [List.length_map]
      induction j with
      | zero => exact Nat.le_refl _
      | succ j ih =>
        rw [List.range_succ, List.flatMap_append, List.length_append, List.flatMap_cons, List.flatMap_nil, List.append_nil]
        have : (partV ss cc j).length ≤ 1 := by unfold partV; split <;> simp
        have := ih (by omega)
        omega
    refine sq (st_setL F0 (el_lst eu_nil (fun ds e => by rw [e]; decide)) fun a0 ds0 H1 e1 F1 n1 p1 => ?_)
    subst p1
    dsimp only
    refine sq (st_forR (Pd := fun d => d = dN (h.sizes.getD cc 0)) (fun n j env' σ' H' => ∃ a b c, env' = [.d (encH h), .d (encS ss), .d (dN cc), .l (((List.range j).flatMap (partV ss cc)).map encPart), a, b, c]) F1 (ev_ix (ev_ix (ev_v rfl) ev_i rfl) (ev_v rfl) (at_N hz)).ev (fun d e => ⟨_, e, by omega⟩) (fun n H' e p => ⟨_, _, _, rfl⟩) (fun n j env' σ' H' pn hj F' hI => ?_) (fun n env' σ' H' pn F' hI => ?_))
    · obtain ⟨a, b, c, rfl⟩ := hI
      have en : n = h.sizes.getD cc 0 := by have := PyData.int.inj pn; omega
      subst en
      have fj := few j (by omega)
      refine gN F' (.int _) fun F2 => ?_
      refine sq (st_set F2 (ev_tuple (K := K) (el_saw (c := cc) (v := j) ho hg hc (ev_v rfl) (Nat.le_of_ble_eq_true rfl) (fun x => ev_v rfl) (fun x => ev_v rfl)).k) fun v3 d3 H3 e3 F3 ⟨ds, p3, p4⟩ => ?_)
      subst p4
      subst p3
      dsimp only
      refine st_ext F3 (i := 3) (Pl := fun l => l = (partV ss cc j).map encPart) rfl (fun ys e => ?_) (ek_if (Pb := fun b => b = !(sawC ss cc j).isEmpty) ((et (ev_neD (ev_v rfl) (ev_tup eu_nil) (sh_S _).shaped (by decide +kernel))).imp fun b e => by rw [e, eqv_nil]; cases sawC ss cc j <;> rfl) (fun pb => (el_lst (eu_c (ev_tup (eu_c (ev_v rfl) (eu_c (ev_v rfl) eu_nil))) eu_nil) (fun ds e => by rw [e]; exact Nat.le_of_ble_eq_true rfl)).k.imp fun ds e => ?_) (fun pb => (el_lst eu_nil (fun ds e => by rw [e]; decide)).k.imp fun ds e => ?_)) fun ys H5 F5 tk e => ?_
      · rw [e]
        have : (partV ss cc j).length ≤ 1 := by unfold partV; split <;> simp
        rw [List.length_map] at fj
        rw [List.length_map, List.length_map]
        omega
      · have ne : sawC ss cc j ≠ [] := fun e => by rw [e] at pb; cases pb
        unfold partV
        rw [e, if_neg ne]
        rfl
      · have em : sawC ss cc j = [] := by
          cases e : sawC ss cc j with
          | nil => rfl
          | cons _ _ => rw [e] at pb; cases pb
        unfold partV
        rw [e, if_pos em]
        rfl
      · subst e
        rw [← List.map_append] at F5
        have e : (List.range j).flatMap (partV ss cc) ++ partV ss cc j = (List.range (j + 1)).flatMap (partV ss cc) := by
          rw [List.range_succ, List.flatMap_append, List.flatMap_cons, List.flatMap_nil, List.append_nil]
        rw [e] at F5
        exact ⟨_, F5, _, _, _, rfl⟩
    · obtain ⟨a, b, c, rfl⟩ := hI
      have en : n = h.sizes.getD cc 0 := by have := PyData.int.inj pn; omega
      subst en
      exact st_retV F' rfl fun a vs e n l r => k a vs _ _ e n l r (by rw [parted_eq])
/-! ### nexts -/
def spNexts (T : List (Addr × Str)) : Sp := fun vs H Q _ => ∃ (h : House) (r : Route) (p : Nat) (s : List Con), Args none H vs [.d (encH h), .d (encR r), .d (dN p), .d (encS s)] ∧ HouseOk h ∧ RouteOk h r ∧ p < r.length ∧ SetOk h s ∧
  (∀ H', Ex T none H H' → goC h r p s = none → Q .non H') ∧ ∀ a ws l H', Ex T none H H' → goC h r p s = some l → H a = none → H' a = some (.lst ws) → DtA H' ws (l.map encPart) → Q (.ref a) H'
theorem ok_nexts {f : Addr} {fd : FuncData} (D : Df K mg "_law_nexts" s__law_nexts f fd ["_law_house_here", "_law_route_here", "_law_place", "_law_some"]) (C1 : Cal P w K mg base "_law_sure" s__law_sure ["_law_house_here", "_law_question", "_law_some"] 2 (spVerdict T)) (C2 : Cal P w K mg base "_law_behind" s__law_behind ["_law_house_here", "_law_item_here", "_law_some"] 2 (spBehind T)) :
    Cal P w K mg base "_law_nexts" s__law_nexts ["_law_house_here", "_law_route_here", "_law_place", "_law_some"] 3 (spNexts T) := by
  obtain ⟨fa, fda, D_sure, G_sure⟩ := C1
  obtain ⟨fb, fdb, D_behind, G_behind⟩ := C2
  refine ⟨f, fd, D, D.F.ok sc__law_nexts (fun vs H Q E h => ?_) (fun cdv A outer s H vs Q E hr h => ?_)⟩
  · obtain ⟨_, _, _, _, h1, _⟩ := h
    exact h1.len
  · obtain ⟨h, r, p, ss, hA, ho, hro, hp, hs, k1, k2⟩ := h
    have F0 := Fr.start (T := T) (po := none) (N := ["_law_house_here", "_law_route_here", "_law_place", "_law_some", "_law_item_here", "_law_nexts_here", "_law_one"]) (fun _ z => nomatch z) hA (by rw [hA.len]; exact Nat.le_of_ble_eq_true rfl)
    refine ⟨_, (pss_cons (ps_asg (pe_ix ix_tup (pv 1) (pv 2) (fun _ _ => rfl)) (pg_tup (by rfl) (pgs_cons (pg_name (i := 4) sc__law_nexts.nd rfl (Or.inr rfl)) (pgs_cons (pg_name (i := 5) sc__law_nexts.nd rfl (Or.inl rfl)) pgs_nil))))
      (pss_cons (ps_if (PW.pt (pw_and (pt_cmpR op_eq (pe_ix ix_tup (pv 4) pe_int (fun _ _ => rfl)) pe_str (nomark _)) (pw_and1 (pt_cmp (pc_isN (pe_call G_sure (hr.mono (by omega)) (by rfl) D_sure.m D_sure.F.kp D_sure.b .nil pass0 (pa_cons (pv 0) (pa_cons (pe_ix ix_tup (pv 4) pe_int (fun _ _ => rfl)) (pa_cons (pv 3) pa_nil))))) rfl)))) (pss_one (ps_ret pe_non)) pss_nil)
      (pss_one (ps_ret (pe_lc (own := [("_law_one", 6)]) (g := gName 6) rfl sc__law_nexts.nd (pi_tup (pv 5)) (blkOk_by (N := ["_law_house_here", "_law_route_here", "_law_place", "_law_some", "_law_item_here", "_law_nexts_here", "_law_one"]) (sc := defScope s__law_nexts) (by decide +kernel)) (fun _ _ _ _ _ => (pg_name (i := 6) sc__law_nexts.nd rfl (Or.inl rfl))) (fun _ _ _ _ _ => pts_nil) (fun _ _ _ _ _ => (pe_tup (pa_cons (pv 6) (pa_cons (pe_call G_behind (hr.mono (by omega)) (by rfl) D_behind.m D_behind.F.kp D_behind.b .nil pass0 (pa_cons (pv 0) (pa_cons (pv 4) (pa_cons (pv 3) pa_nil)))) pa_nil))))))))), ?_⟩
    obtain ⟨⟨it, ns⟩, hrp⟩ : ∃ z, r[p]? = some z := ⟨r[p], List.getElem?_eq_getElem hp⟩
    have hit : ItemOk h it := hro.items _ (List.mem_of_getElem? hrp)
    have hns := hro.nexts p it ns hrp
    obtain ⟨wd, rest, hw1, hw2⟩ := item_word it
    have egd : goC h r p ss = if blocked h ss it = true then none else some (ns.map fun n => (n, behindC h it ss)) := by unfold goC; rw [hrp]
    have wordT : ∀ {gs : List (V × AV)} {env : List AV} {te : TE}, EvD T none H gs env te (encItem it) → EvT T none H gs env (tTest (tOp rEq (tOp (rIxT K) te (tC (.int 0))) (tC (.str "ask")))) (· = decide (wd = "ask")) := fun he => et (ev_eqStr (ev_ix (ds := .str wd :: rest) (he.to hw1) ev_i (atI_nat (xs := .str wd :: rest) (j := 0) rfl)) ev_s)
    refine sq (st_set2 (x := encItem it) (y := dNs ns) F0 (ev_ix (ev_v rfl) (ev_v rfl) (at_Pl hrp)) fun v1 v2 H1 e1 F1 => ?_)
    dsimp only
    refine sq (st_if (Pb := fun b => b = blocked h ss it) F1 ?_ (fun H2 e2 F2 p2 => ?_) (fun H2 e2 F2 p2 => ?_))
    · refine et_and (Pa := fun b => b = decide (wd = "ask")) (Pb := fun b => b = blocked h ss it) (wordT (ev_v rfl)) (fun pa => ?_) (fun pa => ?_) (fun pa b pb => pb)
      · cases it with
        | ask q =>
          refine (etB (ev_isN (ev_verdict (ev_v rfl) (ev_ix (ds := [.str "ask", dN q]) (ev_v rfl) ev_i rfl) (ev_v rfl) ho hit hs))).imp fun b e => ?_
          rw [e]
          show _ = (verdictC h q ss).isNone
          cases verdictC h q ss <;> rfl
        | deed k => rw [← pa] at hw2; cases hw2
        | perhaps k => rw [← pa] at hw2; cases hw2
        | stir c => rw [← pa] at hw2; cases hw2
        | rest => rw [← pa] at hw2; cases hw2
      · cases it with
        | ask q => rw [← pa] at hw2; cases hw2
        | deed k => rfl
        | perhaps k => rfl
        | stir c => rfl
        | rest => rfl
    · exact st_ret F2 ev_n.ev fun v d H4 e4 r4 p4 => by
        subst p4
        cases r4
        exact k1 H4 e4 (by rw [egd, if_pos p2.symm])
    · dsimp only [tNext]
      have eg : goC h r p ss = some (ns.map fun n => (n, behindC h it ss)) := by rw [egd, if_neg (by rw [← p2]; exact Bool.false_ne_true)]
      refine st_retL F2 (el_mapE (enc := dN) (f := fun n => encPart (n, behindC h it ss)) (fun x _ y _ e => ?_) (ev_v rfl) (by have := hns.2.1; omega) fun n hn => ev_tup (eu_c (ev_v rfl) (eu_c (Ev.one (ev_c (args := fun a : House × Item × List Con => [.d (encH a.1), .d (encItem a.2.1), .d (encS a.2.2)]) (h, it, ss) (ea_c (ev_v rfl) (ea_c (ev_v rfl) (ea_c (ev_v rfl) ea_nil))) ⟨ho, hit, hs.g⟩)) eu_nil))) fun a vs ds H4 e4 n4 l4 r4 p4 => k2 a vs _ H4 e4 eg n4 l4 ?_
      · have : x = y := by have := PyData.int.inj e; omega
        rw [this]
      · rw [p4] at r4
        rw [List.map_map]
        exact r4
/-! ### paid -/
def paidT (cs : List Nat) : List TEv → Nat
  | [] => 0
  | .saw c _ :: r => cs.getD c 0 + paidT cs r
  | .deed _ :: r => paidT cs r
  | .perhaps _ _ :: r => paidT cs r
  | .stir _ _ :: r => paidT cs r
  | .ask _ _ :: r => paidT cs r
  | .rest :: r => paidT cs r
  | .to _ :: r => paidT cs r
def isSaw : TEv → Bool
  | .saw _ _ => true
  | _ => false
def costT (cs : List Nat) : TEv → Nat
  | .saw c _ => cs.getD c 0
  | _ => 0
theorem paid_sum (cs : List Nat) : ∀ ts : List TEv, (((ts.filter isSaw).map fun t => ((costT cs t : Nat) : Int)).sum) = (paidT cs ts : Int)
  | [] => rfl
  | t :: r => by
    have ih := paid_sum cs r
    cases t with
    | saw c v =>
      show (((costT cs (.saw c v) : Nat) : Int) :: ((r.filter isSaw).map fun t => ((costT cs t : Nat) : Int))).sum = _
      rw [List.sum_cons, ih]
      show _ = ((cs.getD c 0 + paidT cs r : Nat) : Int)
      rw [Int.natCast_add]
      rfl
    | deed k => exact ih
    | perhaps k b => exact ih
    | stir c v => exact ih
    | ask q a => exact ih
    | rest => exact ih
    | to p => exact ih
theorem te_word (t : TEv) : ∃ wd rest, encTE t = .tuple (.str wd :: rest) ∧ decide (wd = "saw") = isSaw t := by
  cases t with
  | deed k => exact ⟨"deed", [dN k], rfl, (show decide ((Str.ofString "deed") = Str.ofString "saw") = false by decide +kernel)⟩
  | perhaps k b => exact ⟨"perhaps", [dN k, dN b], rfl, (show decide ((Str.ofString "perhaps") = Str.ofString "saw") = false by decide +kernel)⟩
  | stir c v => exact ⟨"stir", [dN c, dN v], rfl, (show decide ((Str.ofString "stir") = Str.ofString "saw") = false by decide +kernel)⟩
  | ask q a => exact ⟨"ask", [dN q, dN a], rfl, (show decide ((Str.ofString "ask") = Str.ofString "saw") = false by decide +kernel)⟩
  | rest => exact ⟨"rest", [], rfl, (show decide ((Str.ofString "rest") = Str.ofString "saw") = false by decide +kernel)⟩
  | saw c v => exact ⟨"saw", [dN c, dN v], rfl, (show decide ((Str.ofString "saw") = Str.ofString "saw") = true by decide +kernel)⟩
  | to p => exact ⟨"to", [dN p], rfl, (show decide ((Str.ofString "to") = Str.ofString "saw") = false by decide +kernel)⟩
theorem encTE_inj {x y : TEv} (h : encTE x = encTE y) : x = y := by
  have h0 : ∀ {a b : PyData} {r s : List PyData}, PyData.tuple (a :: r) = .tuple (b :: s) → a = b ∧ r = s := fun h => List.cons.inj (PyData.tuple.inj h)
  have h1 : ∀ {a b : Nat} {r s : List PyData}, (dN a :: r) = (dN b :: s) → a = b ∧ r = s := fun h => ⟨by have := PyData.int.inj (List.cons.inj h).1; omega, (List.cons.inj h).2⟩
  cases x <;> cases y <;> first
    | rfl
    | (obtain ⟨e1, e2⟩ := h1 (h0 h).2; subst e1; first | rfl | (obtain ⟨e3, _⟩ := h1 e2; subst e3; rfl))
    | exact absurd (PyData.str.inj (h0 h).1) (by decide +kernel)
theorem ev_sum {po : Option PenD} {Hb : Hp} {gs : List (V × AV)} {env : List AV} {te : TE} {ns : List Int} (h : EvK T po Hb gs env te (· = ns.map PyData.int)) : EvD T po Hb gs env (tCB (rSum K) (tCons te tNil)) (.int ns.sum) := fun σ H F Q q => by
  refine h σ H F _ fun a vs ds H1 e1 F1 np h1 r1 p1 => ?_
  subst p1
  have e := r1.ints
  subst e
  exact ⟨a, ns, rfl, SqL.of h1, q _ H1 e1 F1 (.int _)⟩
def spPaid (T : List (Addr × Str)) : Sp := SpD T (α := List Nat × List TEv) (fun a => [.d (dNs a.1), .d (encHist a.2)]) (fun a => a.2.length ≤ 1000 ∧ ∀ t ∈ a.2, ∀ c v, t = .saw c v → c < a.1.length) (fun a d => d = dN (paidT a.1 a.2))
theorem ok_paid (B : Bi mg) {f : Addr} {fd : FuncData} (D : Df K mg "_law_paid" s__law_paid f fd ["_law_costs", "_law_history"]) : Cal P w K mg base "_law_paid" s__law_paid ["_law_costs", "_law_history"] 1 (spPaid T) := by
  refine ⟨f, fd, D, D.F.ok sc__law_paid (fun vs H Q E h => ?_) (fun cdv A outer s H vs Q E hr h => ?_)⟩
  · obtain ⟨a, h1, _⟩ := h
    exact h1.len
  · obtain ⟨⟨cs, ts⟩, ⟨hl, hc⟩, F0, k⟩ := SpD.ent (N := ["_law_costs", "_law_history", "_law_item_here"]) h (fun _ => Nat.le_of_ble_eq_true rfl)
    dsimp only at *
    refine ⟨_, (pss_one (ps_ret (pe_callB (cr_sum rfl) (by rfl) B.sum (by decide +kernel) (pa_cons (pe_lc (own := [("_law_item_here", 2)]) (g := gName 2) rfl sc__law_paid.nd (pi_tup (pv 1)) (blkOk_by (N := ["_law_costs", "_law_history", "_law_item_here"]) (sc := defScope s__law_paid) (by decide +kernel)) (fun _ _ _ _ _ => (pg_name (i := 2) sc__law_paid.nd rfl (Or.inl rfl))) (fun _ _ _ _ _ => (pts_one (pt_cmpR op_eq (pe_ix (ixT K) (pv 2) pe_int (fun _ _ => rfl)) pe_str (nomark _)))) (fun _ _ _ _ _ => (pe_ix (ixT K) (pv 0) (pe_ix (ixT K) (pv 2) pe_int (fun _ _ => rfl)) (fun _ _ => rfl)))) pa_nil)))), ?_⟩
    have body : EvL T none H [] [.d (dNs cs), .d (encHist ts), .u] (tLc (iTup K (tVar 1)) (gName 2) (tTest (tOp rEq (tOp (rIxT K) (tVar 2) (tC (.int 0))) (tC (.str "saw")))) (tOp (rIxT K) (tVar 0) (tOp (rIxT K) (tVar 2) (tC (.int 1)))) [2]) (· = ((ts.filter isSaw).map fun t => ((costT cs t : Nat) : Int)).map PyData.int) :=
      (el_fmE (enc := encTE) (l := ts) (f := fun t => dN (costT cs t)) (p := isSaw) (fun x _ y _ e => by rw [encTE_inj e]; exact ⟨rfl, rfl⟩) (ev_v rfl) (by omega) (fun t ht => by
        obtain ⟨wd, rest, hw1, hw2⟩ := te_word t
        rw [← hw2]
        exact et (ev_eqStr (ev_ix (ds := .str wd :: rest) ((ev_v rfl).to hw1) ev_i (atI_nat (j := 0) rfl)) ev_s)) (fun t ht hp => by
        cases t with
        | saw c v => exact ev_ix (ev_v rfl) (ev_ix (ds := [.str "saw", dN c, dN v]) (ev_v rfl) ev_i rfl) (at_N (at_sz (hc _ ht c v rfl) 0))
        | deed k => cases hp
        | perhaps k b => cases hp
        | stir c v => cases hp
        | ask q a => cases hp
        | rest => cases hp
        | to p => cases hp)).imp fun ds e => by rw [e, List.map_map]; rfl
    exact st_ret F0 ((ev_sum body.k).to (by rw [paid_sum])).ev k
end
end K22
/-! LT: tuple(a list) whose object is known, dict(such a tuple of pairs). -/
namespace K22
open PySem PySem.Spec L2 LamX
/-- tuple(x) of a list: a new tuple whose object is known -/
def kTupF (K : PySem.W.Frag) (x : V) (H : Hp) (Q : VK) : Prop := ∃ p xs, x = .ref p ∧ SqL K H p xs ∧ ∀ q o, H q = none → o.dict = none → Q (.ref q) (upd H q (.frz o (.tup xs)))
theorem rl_tupleF {X : Cx} (pins : List (Addr × Obj)) (s : Shared) (σ : L2.St) (H : Hp) (x : V) (v : Value) (Q : VK) (I : Inv X pins σ H s) (r : RelV x v) (h : kTupF X.K x H Q) : wpAny (model X.prog X.w) X.A (call (.type "tuple") [v]) (EP X pins σ Q) X.xe s := by
  obtain ⟨p, xs, rfl, hs, q⟩ := h
  cases r
  obtain ⟨its, rv, pl, hz⟩ := I.list hs
  refine call_tuple_list pl.isList (fun h' hk => ?_) (by rw [List.size_toArray, ← rv.length]; exact hz)
  have I1 : Inv X pins σ H { s with heap := h' } := I.kept (t' := s.toks) hk
  have hg : (h'.push { cls := .type "tuple", data := .seq its.toArray }).get? h'.objs.size = some { cls := .type "tuple", data := .seq its.toArray } := Heap.get?_push_size _ rfl
  exact ⟨.ref h'.objs.size, _, I1.laid (o := .frz { cls := .type "tuple", data := .seq its.toArray } (.tup xs)) (t' := s.toks) (fun b o e => Heap.get?_push_of_some _ e) (Nat.le_refl _) ⟨hg, hz, its, rv, PyProof.Rows.IsTup.new _ _⟩, rfl, q _ _ (I1.hok.fresh (Nat.le_refl _)) rfl⟩
theorem pe_tupleOfF {X : Cx} {a : Expr} {ta : TE} {p pos : Pos} (hg : Gl X "tuple") (hm : X.mg "tuple" = none) (ha : PE X a ta) (na : starEach [a] X.env = (false, eval a X.env) :: starEach [] X.env := by rfl) : PE X (.Call (.Name "tuple" p) [a] [] pos) (tThen ta (kTupF X.K)) :=
  ⟨fun pins s σ H Q I h => PyProof.Rows.Call_ (ld_blt I hg hm PyProof.Rows.boot_tuple (PyProof.Rows.callWith_type1 (one_arg ha I h (fun v s2 x H2 I2 r q => rl_tupleF pins s2 σ H2 x v Q I2 r q) na) na))⟩
/-! ### dict(a known tuple of pairs) -/
theorem prs_of {X : Cx} {pins : List (Addr × Obj)} {σ : L2.St} {H : Hp} {s : Shared} (I : Inv X pins σ H s) : ∀ {ps : List Addr} {kvs : List (Key × V)}, Paired (fun p kv => SqT X.K H p [kV kv.1, kv.2]) ps kvs →
    ∃ (prs : List (Key × Value)) (pvs : List (Value × Value)), KV kvs prs ∧ prs.length = ps.length ∧ pvs.length = ps.length ∧ ∀ (j : Nat) (k v : Value), pvs[j]? = some (k, v) → ∃ (b : Addr) (key : Key), ps[j]? = some b ∧ s.heap.IsTuple b #[k, v] ∧ prs[j]? = some (key, v) ∧ keyIs key k = true
  | _, _, .nil => ⟨[], [], .nil, rfl, rfl, fun j k v e => by simp at e⟩
  | _, _, .cons (a := p) (b := kv) h t => by
    obtain ⟨prs, pvs, r, hl, hl2, hp⟩ := prs_of I t
    obtain ⟨its, rv, ht, _⟩ := I.tuple h
    obtain ⟨u, y, ei, ru, ry⟩ := vals2 rv
    subst ei
    refine ⟨(kv.1, y) :: prs, (u, y) :: pvs, .cons ⟨rfl, ry⟩ r, by rw [List.length_cons, List.length_cons, hl], by rw [List.length_cons, List.length_cons, hl2], fun j k v e => ?_⟩
    cases j with
    | zero =>
      have e' : (u, y) = (k, v) := Option.some.inj e
      cases e'
      exact ⟨p, kv.1, rfl, ht, rfl, kV_is (P := X.prog) (w := X.w) ru⟩
    | succ j =>
      obtain ⟨b, key, e1, e2, e3, e4⟩ := hp j k v (by simpa using e)
      exact ⟨b, key, by simpa using e1, e2, by simpa using e3, e4⟩
def rDictT (K : PySem.W.Frag) : List V → Hp → VK → Prop := fun xs H Q => ∃ (a : Addr) (o : Obj) (ps : List Addr) (kvs : List (Key × V)), xs = [.ref a] ∧ H a = some (.frz o (.tup (ps.map V.ref))) ∧ o.dict = none ∧ Paired (fun p kv => SqT K H p [kV kv.1, kv.2]) ps kvs ∧
  ∀ p, H p = none → Q (.ref p) (upd H p (.dK (mergeK [] kvs)))
theorem call_dictT {X : Cx} (hcalm : X.calm = true) : CallR X (.type "dict") (rDictT X.K) := by
  intro pins s σ H xs us Q I r q
  obtain ⟨a, o, ps, kvs, ex, ha, hd, hp, q⟩ := q
  subst ex
  obtain ⟨u, eu, rx⟩ := vals1 r
  subst eu
  cases rx
  obtain ⟨hget, hz, its, rv, o', ho', hc', n, hdat⟩ := I.hok a _ ha
  rw [hget] at ho'
  cases ho'
  have ei := refs_at rv
  subst ei
  rw [List.length_map] at hz
  obtain ⟨prs, pvs, rel, hl, hl2, hpr⟩ := prs_of I hp
  have P := PySem.PairArg.tuple (prog := X.prog) (w := X.w) a (ps.map Value.ref).toArray (fun j => ps.getD j 0) pvs
  refine PySem.call_dict_pairs (knd := mixKind X.prog X.w) (kvs := prs) P (I.ok.hd hcalm) ⟨⟨o, n, hget, hc', hd, hdat⟩, by rw [List.size_toArray, List.length_map, hl2], fun j k v e => ?_⟩ ⟨by rw [hl, hl2], fun j k v e => ?_⟩ (by rw [hl2]; exact hz) fun h' tk hd' k => ?_
  · obtain ⟨b, key, e1, e2, e3, e4⟩ := hpr j k v e
    have eb : ps.getD j 0 = b := getD_of e1
    exact ⟨by show _ = some (Value.ref (ps.getD j 0)); rw [eb]; simp [e1], .inl (by show s.heap.IsTuple (ps.getD j 0) _; rw [eb]; exact e2)⟩
  · obtain ⟨b, key, e1, e2, e3, e4⟩ := hpr j k v e
    exact ⟨key, e3, e4⟩
  · have hm : (s.heap.objs.size == sysModules) = false := beq_eq_false_iff_ne.mpr (Nat.ne_of_gt I.big)
    have hlen : (mergeK [] kvs).length ≤ sizeLine := by
      refine Nat.le_trans (length_mergeK kvs []) ?_
      rw [List.length_nil, Nat.zero_add, rel.length, hl]
      exact hz
    exact ⟨.ref s.heap.objs.size, upd H s.heap.objs.size (.dK (mergeK [] kvs)), I.laid (t' := tk) (fun b o e => k b o (fun z => nomatch z) e) (Nat.le_refl _) (show ObjOk X.prog X.w _ _ _ (.dK (mergeK [] kvs)) from ⟨hlen, hm, merged [] prs, KV.merge rel .nil, hd'⟩), rfl, q _ (I.hok.fresh (Nat.le_refl _))⟩
theorem merge_off {k : Key} : ∀ {kvs : List (Key × V)} {acc : List (Key × V)}, (∀ p ∈ kvs, p.1 ≠ k) → valV (mergeK acc kvs) k = valV acc k
  | [], _, _ => rfl
  | p :: r, acc, h => by
    show valV (mergeK (putK acc p.1 p.2) r) k = _
    rw [merge_off (fun q hq => h q (List.mem_cons_of_mem _ hq)), valV_put, if_neg (fun e => h p List.mem_cons_self e.symm)]
theorem merge_at {k : Key} {v : V} : ∀ {kvs : List (Key × V)} {acc : List (Key × V)}, (kvs.map (·.1)).Nodup → (k, v) ∈ kvs → valV (mergeK acc kvs) k = some v
  | p :: r, acc, hn, hm => by
    rw [List.map_cons] at hn
    obtain ⟨h1, h2⟩ := List.nodup_cons.mp hn
    show valV (mergeK (putK acc p.1 p.2) r) k = _
    rcases List.mem_cons.mp hm with e | hm
    · subst e
      rw [merge_off (fun q hq e => h1 (List.mem_map.mpr ⟨q, hq, e⟩)), valV_put, if_pos rfl]
    · exact merge_at h2 hm
section
variable {T : List (Addr × Str)} {po : Option PenD} {Hb : Hp} {gs : List (V × AV)} {env : List AV} {K : PySem.W.Frag} {ta tb te : TE}
theorem prs_dt {H : Hp} : ∀ {l : List (Nat × PyData)} {xs : List V}, DtA H xs (l.map fun q => .tuple [dN q.1, q.2]) → ∃ (ps : List Addr) (kvs : List (Key × V)), xs = ps.map V.ref ∧ Paired (fun p kv => ∀ K, SqT K H p [kV kv.1, kv.2]) ps kvs ∧ Paired (fun q kv => kv.1 = Sum.inl (q.1 : Int) ∧ Dt H kv.2 q.2) l kvs
  | [], _, h => by
    cases h
    exact ⟨[], [], rfl, .nil, .nil⟩
  | q :: l, _, h => by
    rw [List.map_cons] at h
    cases h with
    | cons h1 h2 =>
      obtain ⟨ps, kvs, e, p1, p2⟩ := prs_dt h2
      obtain ⟨a, ys, rfl, g1, g2⟩ := h1.t
      cases g2 with
      | cons r1 g2 =>
        cases g2 with
        | @cons v2 _ _ _ r2 g2 =>
          cases g2
          obtain rfl := r1.i
          exact ⟨a :: ps, (Sum.inl (q.1 : Int), v2) :: kvs, by rw [e]; rfl, .cons (fun K => SqT.of g1) p1, .cons ⟨rfl, r2⟩ p2⟩
theorem pair_keys {H : Hp} {l : List (Nat × PyData)} {kvs : List (Key × V)} (h : Paired (fun q kv => kv.1 = Sum.inl (q.1 : Int) ∧ Dt H kv.2 q.2) l kvs) : kvs.map (·.1) = (l.map (·.1)).map fun n : Nat => (Sum.inl (n : Int) : Key) := by
  induction h with
  | nil => rfl
  | cons h _ ih => rw [List.map_cons, List.map_cons, List.map_cons, ih, h.1]
/-- dict(a known tuple of pairs)[key] -/
theorem ev_pick {l : List (Nat × PyData)} {n : Nat} {d : PyData} (h1 : EvD T po Hb gs env tb (.dict (l.map fun q => (dN q.1, q.2)))) (h2 : EvD T po Hb gs env ta (dN n)) (hn : (l.map (·.1)).Nodup) (hm : (n, d) ∈ l) : EvD T po Hb gs env (tDGet (tCB (rDictT K) (tCons tb tNil)) ta) d := fun σ H F Q q => by
  refine h1 σ H F _ fun v H1 e1 F1 r1 => ?_
  cases r1 with
  | @fz a o xs _ hf hd hr =>
    rw [List.map_map] at hr
    obtain ⟨ps, kvs, ex, p1, p2⟩ := prs_dt hr
    subst ex
    refine ⟨a, o, ps, kvs, rfl, hf, hd, ?_, fun p hp => ?_⟩
    · have go : ∀ {ps : List Addr} {kvs : List (Key × V)}, Paired (fun p kv => ∀ K, SqT K H1 p [kV kv.1, kv.2]) ps kvs → Paired (fun p kv => SqT K H1 p [kV kv.1, kv.2]) ps kvs := by
        intro ps kvs h
        induction h with
        | nil => exact .nil
        | cons h _ ih => exact .cons (h K) ih
      exact go p1
    · have e2 : Ex T po H1 (upd H1 p (.dK (mergeK [] kvs))) := Ex.new hp
      refine h2 σ _ (F1.mono e2) _ fun w H3 e3 F3 r3 => ?_
      obtain rfl := r3.i
      have np : NP po p := F.notPen (F1.ext.dom p hp)
      have h3 : H3 p = some (.dK (mergeK [] kvs)) := e3.keep p _ np (fun _ z => nomatch z) upd_same
      obtain ⟨v2, hv, rv⟩ : ∃ v2, (Sum.inl (n : Int), v2) ∈ kvs ∧ Dt H1 v2 d := by
        obtain ⟨i, hi⟩ := List.mem_iff_getElem?.mp hm
        obtain ⟨kv, hk, e, rd⟩ := pair_get p2 hi
        exact ⟨kv.2, by rw [← e]; exact List.mem_of_getElem? hk, rd⟩
      have hnd : (kvs.map (·.1)).Nodup := by
        have e := pair_keys p2
        rw [e, List.nodup_iff_pairwise_ne, List.pairwise_map]
        refine List.Pairwise.imp (fun {a b} hab e => hab ?_) (List.nodup_iff_pairwise_ne.mp hn)
        have := Sum.inl.inj e
        omega
      refine ⟨p, v2, rfl, ?_, q v2 H3 (e1.trans (e2.trans e3)) F3 ((rv.mono e2.tup).mono e3.tup)⟩
      rw [← merge_at (acc := []) hnd hv]
      exact DGet.k (k := Sum.inl (n : Int)) h3
end
end K22
/-! LF: all that is lived. -/
namespace K22
open PySem PySem.Spec L2 LamX
theorem u1 {k : Nat} {A : Around} (hr : Room k A) : A.units + 1 < cLine := by have := hr.un; omega
abbrev s__law_happens : Stmt := topS 50
theorem sc__law_happens : FnScope ["_law_house_here", "_law_content", "_law_item_here", "_law_value"] ["_law_house_here", "_law_content", "_law_item_here"] (defScope s__law_happens) := ⟨rfl, rfl, rfl, by decide +kernel, rfl, by decide +kernel, by decide +kernel⟩
abbrev s__law_all_lived : Stmt := topS 49
theorem sc__law_all_lived : FnScope ["_law_house_here", "_law_route_here", "_law_stand", "_law_way_here", "_law_content", "_law_place", "_law_some", "_law_found", "_law_rest", "_law_here", "_law_told", "_law_later", "_law_part", "_law_one"] ["_law_house_here", "_law_route_here", "_law_stand", "_law_way_here", "_law_content"] (defScope s__law_all_lived) := ⟨rfl, rfl, rfl, by decide +kernel, rfl, by decide +kernel, by decide +kernel⟩
mutual
/-- all true histories of a content that go by a way to its end -/
def livedW (h : House) (r : Route) : Nat → Con → Way → List (List TEv)
  | _, _, .fin => [[]]
  | p, x, .look c ws => livedLook h r p x c ws
  | p, x, .on ws => (toldU h x (.item (itemAt r p))).flatMap fun b => livedOn h r b.1 b.2 ws
def livedLook (h : House) (r : Route) (p : Nat) (x : Con) (c : Nat) : Ways → List (List TEv)
  | .nil => []
  | .cons v w ws => if v = x.getD c 0 then (livedW h r p x w).map fun l => .saw c v :: l else livedLook h r p x c ws
def livedOn (h : House) (r : Route) (x : Con) (t : TEv) : Ways → List (List TEv)
  | .nil => []
  | .cons n w ws => ((livedW h r n x w).map fun l => t :: .to n :: l) ++ livedOn h r x t ws
end
theorem livedLook_at {h : House} {r : Route} {p c : Nat} {x : Con} : ∀ {ws : Ways} {w : Way}, (ws.list.map (·.1)).Nodup → (x.getD c 0, w) ∈ ws.list → livedLook h r p x c ws = (livedW h r p x w).map fun l => .saw c (x.getD c 0) :: l
  | .nil, w, _, hm => by rw [Ways.list] at hm; cases hm
  | .cons v w' ws, w, hn, hm => by
    rw [Ways.list] at hn hm
    rw [List.map_cons] at hn
    obtain ⟨h1, h2⟩ := List.nodup_cons.mp hn
    rw [livedLook]
    rcases List.mem_cons.mp hm with e | hm
    · cases e
      rw [if_pos rfl]
    · rw [if_neg (fun e => h1 (List.mem_map.mpr ⟨_, hm, e.symm⟩)), livedLook_at h2 hm]
theorem livedOn_flat (h : House) (r : Route) (x : Con) (t : TEv) : ∀ ws : Ways, livedOn h r x t ws = ws.list.flatMap fun q => (livedW h r q.1 x q.2).map fun l => t :: .to q.1 :: l
  | .nil => by rw [livedOn, Ways.list]; rfl
  | .cons n w ws => by rw [livedOn, Ways.list, List.flatMap_cons, livedOn_flat h r x t ws]
/-! ### ways that fit, opened -/
theorem paired_mem {α β : Type} {R : α → β → Prop} {xs : List α} {ys : List β} (h : Paired R xs ys) : ∀ y ∈ ys, ∃ x ∈ xs, R x y := by
  induction h with
  | nil => exact fun y hy => (nomatch hy)
  | cons h1 _ ih =>
    intro y hy
    rcases List.mem_cons.mp hy with rfl | hy
    · exact ⟨_, List.mem_cons_self, h1⟩
    · obtain ⟨x, hx, hr⟩ := ih y hy
      exact ⟨x, List.mem_cons_of_mem _ hx, hr⟩
theorem paired_mem' {α β : Type} {R : α → β → Prop} {xs : List α} {ys : List β} (h : Paired R xs ys) : ∀ x ∈ xs, ∃ y ∈ ys, R x y := by
  induction h with
  | nil => exact fun y hy => (nomatch hy)
  | cons h1 _ ih =>
    intro y hy
    rcases List.mem_cons.mp hy with rfl | hy
    · exact ⟨_, List.mem_cons_self, h1⟩
    · obtain ⟨x, hx, hr⟩ := ih y hy
      exact ⟨x, List.mem_cons_of_mem _ hx, hr⟩
theorem paired_keys {α β : Type} {R : α → Nat × β → Prop} {f : α → Nat} {xs : List α} {ys : List (Nat × β)} (h : Paired R xs ys) (hf : ∀ x y, R x y → y.1 = f x) : ys.map (·.1) = xs.map f := by
  induction h with
  | nil => rfl
  | cons h1 _ ih => rw [List.map_cons, List.map_cons, ih, hf _ _ h1]
theorem parted_keys (h : House) (s : List Con) (c : Nat) : ((partedC h s c).map (·.1)).Nodup := by
  rw [parted_eq]
  have go : ∀ l : List Nat, l.Nodup → ((l.flatMap (partV s c)).map (·.1)).Nodup ∧ ∀ k ∈ (l.flatMap (partV s c)).map (·.1), k ∈ l := by
    intro l
    induction l with
    | nil => exact fun _ => ⟨List.Pairwise.nil, fun k hk => hk⟩
    | cons v r ih =>
      intro hn
      obtain ⟨h1, h2⟩ := List.nodup_cons.mp hn
      obtain ⟨i1, i2⟩ := ih h2
      rw [List.flatMap_cons, List.map_append]
      unfold partV
      by_cases e : sawC s c v = []
      · rw [if_pos e]
        exact ⟨i1, fun k hk => List.mem_cons_of_mem _ (i2 k hk)⟩
      · rw [if_neg e]
        refine ⟨List.nodup_cons.mpr ⟨fun hk => h1 (i2 v hk), i1⟩, fun k hk => ?_⟩
        rcases List.mem_cons.mp hk with rfl | hk
        · exact List.mem_cons_self
        · exact List.mem_cons_of_mem _ (i2 k hk)
  exact (go _ List.nodup_range).1
theorem way_look {h : House} {r : Route} {p c : Nat} {s : List Con} {ws : Ways} (hw : WayOk h r p s (.look c ws)) : c < h.sizes.length ∧ (ws.list.map (·.1)).Nodup ∧ (∀ q ∈ ws.list, sawC s c q.1 ≠ [] ∧ WayOk h r p (sawC s c q.1) q.2) ∧ ∀ x ∈ s, ConOk h.sizes x → ∃ w, (x.getD c 0, w) ∈ ws.list := by
  obtain ⟨hc, hws⟩ : c < h.sizes.length ∧ WaysOk h r ((partedC h s c).map fun q => (q.1, p, q.2)) ws := by cases hw with | look h1 h2 => exact ⟨h1, h2⟩
  have hp := pair_maps hws.paired
  refine ⟨hc, ?_, fun q hq => ?_, fun x hx hxo => ?_⟩
  · rw [paired_keys (f := fun q : Nat × List Con => q.1) hp fun x y h => h.1]
    exact parted_keys h s c
  · obtain ⟨x, hx, h1, h2⟩ := paired_mem hp q hq
    obtain ⟨_, h3, h4⟩ := parted_mem hx
    rw [h1, ← h3]
    exact ⟨h4, h2⟩
  · obtain ⟨y, hy, h1, _⟩ := paired_mem' hp _ (parted_has hc hx hxo)
    exact ⟨y.2, by rw [← show y.1 = x.getD c 0 from h1]; exact hy⟩
theorem way_on {h : House} {r : Route} {p : Nat} {s : List Con} {ws : Ways} (hw : WayOk h r p s (.on ws)) : ∃ it ns, r[p]? = some (it, ns) ∧ blocked h s it = false ∧ ws.list.length = ns.length ∧ ∀ q ∈ ws.list, q.1 ∈ ns ∧ WayOk h r q.1 (behindC h it s) q.2 := by
  obtain ⟨l, hgo, hws⟩ : ∃ l, goC h r p s = some l ∧ WaysOk h r (l.map fun q => (q.1, q.1, q.2)) ws := by cases hw with | on h1 h2 => exact ⟨_, h1, h2⟩
  obtain ⟨it, ns, h1, h2, hl⟩ := go_mem hgo
  have hp := pair_maps hws.paired
  refine ⟨it, ns, h1, h2, ?_, fun q hq => ?_⟩
  · rw [← pair_len hp, hl, List.length_map]
  · obtain ⟨x, hx, h3, h4⟩ := paired_mem hp q hq
    rw [hl] at hx
    obtain ⟨n, hn, rfl⟩ := List.mem_map.mp hx
    have h3' : q.1 = n := h3
    rw [h3']
    exact ⟨hn, h4⟩
/-- what is told leads into the set behind -/
theorem told_beh {h : House} (ho : HouseOk h) {it : Item} (hi : ItemOk h it) {s : List Con} (hs : ∀ x ∈ s, ConOk h.sizes x) {x y : Con} {t : TEv} (hx : x ∈ s) (hm : (y, t) ∈ toldU h x (.item it)) : y ∈ behindC h it s := by
  cases it with
  | deed k =>
    cases List.mem_singleton.mp hm
    exact (norm_mem (csm_of ho (done_all ho hi hs)) _).mpr (List.mem_map.mpr ⟨x, hx, rfl⟩)
  | perhaps k =>
    have g : ∀ z ∈ s ++ s.map (doneC h k), ConOk h.sizes z := fun z hz => (List.mem_append.mp hz).elim (hs z) (done_all ho hi hs z)
    refine (norm_mem (csm_of ho g) _).mpr ?_
    rcases List.mem_cons.mp hm with e | hm
    · cases e
      exact List.mem_append_left _ hx
    · cases List.mem_singleton.mp hm
      exact List.mem_append_right _ (List.mem_map.mpr ⟨x, hx, rfl⟩)
  | stir c =>
    refine (norm_mem (csm_of ho (stir_all hi hs)) _).mpr ?_
    obtain ⟨v, hv, e⟩ := List.mem_map.mp hm
    cases e
    exact List.mem_flatMap.mpr ⟨x, hx, List.mem_map.mpr ⟨v, hv, rfl⟩⟩
  | ask q =>
    cases List.mem_singleton.mp hm
    exact hx
  | rest =>
    cases List.mem_singleton.mp hm
    exact hx
theorem told_len {h : House} (ho : HouseOk h) {it : Item} (hi : ItemOk h it) (x : Con) : (toldU h x (.item it)).length ≤ 4 := by
  cases it with
  | deed k => exact Nat.le_of_ble_eq_true rfl
  | perhaps k => exact Nat.le_of_ble_eq_true rfl
  | stir c =>
    show ((List.range (h.sizes.getD c 0)).map _).length ≤ 4
    rw [List.length_map, List.length_range]
    exact (ho.sz _ (List.mem_of_getElem? (at_sz hi 0))).2
  | ask q => exact Nat.le_of_ble_eq_true rfl
  | rest => exact Nat.le_of_ble_eq_true rfl
theorem fm_len {α β : Type} {f : α → List β} {B : Nat} : ∀ {l : List α}, (∀ x ∈ l, (f x).length ≤ B) → (l.flatMap f).length ≤ l.length * B
  | [], _ => Nat.zero_le _
  | x :: r, h => by
    rw [List.flatMap_cons, List.length_append, List.length_cons, Nat.succ_mul]
    have h1 := h x List.mem_cons_self
    have h2 := fm_len (f := f) (B := B) (l := r) fun y hy => h y (List.mem_cons_of_mem _ hy)
    omega
theorem item_at {r : Route} {p : Nat} {it : Item} {ns : List Nat} (h : r[p]? = some (it, ns)) : itemAt r p = it := by unfold itemAt; rw [getD_of h]
theorem lived_len {h : House} (ho : HouseOk h) {r : Route} (hro : RouteOk h r) : ∀ (n : Nat) (w : Way) (p : Nat) (s : List Con) (x : Con), w.dep ≤ n → WayOk h r p s w → SetOk h s → x ∈ s → (livedW h r p x w).length ≤ 12 ^ w.ons
  | 0, w, p, s, x, hd, _, _, _ => by
    have := dep_pos w
    omega
  | n + 1, .fin, p, s, x, hd, hw, hs, hx => by
    rw [livedW, Way.ons]
    exact Nat.le_refl _
  | n + 1, .look c ws, p, s, x, hd, hw, hs, hx => by
    obtain ⟨hc, hn, h1, h2⟩ := way_look hw
    obtain ⟨w, hm⟩ := h2 x hx (hs.all x hx)
    rw [Way.dep] at hd
    rw [livedW, livedLook_at hn hm, List.length_map, Way.ons]
    obtain ⟨h3, h4⟩ := h1 _ hm
    refine Nat.le_trans (lived_len ho hro n w p _ x (Nat.le_trans (Ways.dep_le hm) (by omega)) h4 (saw_ok hs.g h3) (List.mem_filter.mpr ⟨hx, by simp⟩)) ?_
    exact Nat.pow_le_pow_right (by decide) (Ways.ons_le hm)
  | n + 1, .on ws, p, s, x, hd, hw, hs, hx => by
    obtain ⟨it, ns, hrp, hb, hl, h1⟩ := way_on hw
    have hit : ItemOk h it := hro.items _ (List.mem_of_getElem? hrp)
    have hns := (hro.nexts p it ns hrp).2.1
    rw [Way.dep] at hd
    rw [livedW, Way.ons, item_at hrp, Nat.pow_succ]
    have inner : ∀ b ∈ toldU h x (.item it), (livedOn h r b.1 b.2 ws).length ≤ 3 * 12 ^ ws.ons := fun b hb => by
      rw [livedOn_flat]
      refine Nat.le_trans (fm_len (B := 12 ^ ws.ons) fun q hq => ?_) (Nat.mul_le_mul_right _ (by omega))
      rw [List.length_map]
      refine Nat.le_trans (lived_len ho hro n q.2 q.1 (behindC h it s) b.1 (Nat.le_trans (Ways.dep_le hq) (by omega)) (h1 q hq).2 (beh_ok ho hit hs) (told_beh ho hit hs.all hx (show (b.1, b.2) ∈ _ from hb))) ?_
      exact Nat.pow_le_pow_right (by decide) (Ways.ons_le hq)
    refine Nat.le_trans (fm_len inner) ?_
    have := told_len ho hit x
    calc _ ≤ 4 * (3 * 12 ^ ws.ons) := Nat.mul_le_mul_right _ this
      _ = 12 ^ ws.ons * 12 := by omega
theorem lived_short {h : House} {r : Route} : ∀ (n : Nat) (w : Way) (p : Nat) (x : Con), w.dep ≤ n → ∀ l ∈ livedW h r p x w, l.length ≤ 2 * n
  | 0, w, p, x, hd, l, hl => by
    have := dep_pos w
    omega
  | n + 1, .fin, p, x, hd, l, hl => by
    rw [livedW] at hl
    rw [List.mem_singleton.mp hl]
    exact Nat.zero_le _
  | n + 1, .look c ws, p, x, hd, l, hl => by
    rw [Way.dep] at hd
    rw [livedW] at hl
    have go : ∀ ws : Ways, ws.dep ≤ n → l ∈ livedLook h r p x c ws → l.length ≤ 2 * (n + 1) := by
      intro ws
      induction ws using Ways.rec (motive_1 := fun _ => True) with
      | fin => trivial
      | on => trivial
      | look => trivial
      | nil => intro _ hl; rw [livedLook] at hl; cases hl
      | cons v w ws _ ih =>
        intro hd hl
        rw [Ways.dep] at hd
        rw [livedLook] at hl
        split at hl
        · obtain ⟨l', hl', rfl⟩ := List.mem_map.mp hl
          have := lived_short n w p x (by omega) l' hl'
          rw [List.length_cons]
          omega
        · exact ih (by omega) hl
    exact go ws (by omega) hl
  | n + 1, .on ws, p, x, hd, l, hl => by
    rw [Way.dep] at hd
    rw [livedW] at hl
    obtain ⟨b, _, hl⟩ := List.mem_flatMap.mp hl
    rw [livedOn_flat] at hl
    obtain ⟨q, hq, hl⟩ := List.mem_flatMap.mp hl
    obtain ⟨l', hl', rfl⟩ := List.mem_map.mp hl
    have := lived_short n q.2 q.1 b.1 (Nat.le_trans (Ways.dep_le hq) (by omega)) l' hl'
    rw [List.length_cons, List.length_cons]
    omega
section
variable {P : Program} {w : World} {K : PySem.W.Frag} {mg : Str → Option Value} {base : Heap} {T : List (Addr × Str)}
def spHappens (T : List (Addr × Str)) : Sp := SpL T (α := House × Con × Item) (fun a => [.d (encH a.1), .d (encC a.2.1), .d (encItem a.2.2)]) (fun a => HouseOk a.1 ∧ ConOk a.1.sizes a.2.1 ∧ ItemOk a.1 a.2.2) (fun a ds => ds = (toldU a.1 a.2.1 (.item a.2.2)).map encBT)
theorem ok_happens (B : Bi mg) {f : Addr} {fd : FuncData} (D : Df K mg "_law_happens" s__law_happens f fd ["_law_house_here", "_law_content", "_law_item_here"]) (C1 : Cal P w K mg base "_law_done" s__law_done ["_law_house_here", "_law_deed", "_law_content"] 1 (spDone T)) (C2 : Cal P w K mg base "_law_put" s__law_put ["_law_content", "_law_cell", "_law_value"] 1 (spWith T)) (C3 : Cal P w K mg base "_law_answered" s__law_answered ["_law_house_here", "_law_question", "_law_content"] 1 (spAsked T)) :
    Cal P w K mg base "_law_happens" s__law_happens ["_law_house_here", "_law_content", "_law_item_here"] 2 (spHappens T) := by
  obtain ⟨fa, fda, D_done, G_done⟩ := C1
  obtain ⟨fb, fdb, D_put, G_put⟩ := C2
  obtain ⟨fc, fdc, D_answered, G_answered⟩ := C3
  refine ⟨f, fd, D, D.F.ok sc__law_happens (fun vs H Q E h => ?_) (fun cdv A outer s H vs Q E hr h => ?_)⟩
  · obtain ⟨a, h1, _⟩ := h
    exact h1.len
  · obtain ⟨⟨h, x, i⟩, ⟨ho, hx, hi⟩, F0, k⟩ := SpL.ent (N := ["_law_house_here", "_law_content", "_law_item_here", "_law_value"]) h (fun _ => Nat.le_of_ble_eq_true rfl)
    dsimp only at *
    refine ⟨_, (pss_cons (ps_if (pt_cmpR op_eq (pe_ix ix_tup (pv 2) pe_int (fun _ _ => rfl)) pe_str (nomark _)) (pss_one (ps_ret (pe_lst (pa_cons (pe_tup (pa_cons (pe_call G_done (hr.mono (by omega)) (by rfl) D_done.m D_done.F.kp D_done.b .nil pass0 (pa_cons (pv 0) (pa_cons (pe_ix ix_tup (pv 2) pe_int (fun _ _ => rfl)) (pa_cons (pv 1) pa_nil)))) (pa_cons (pv 2) pa_nil))) pa_nil)))) pss_nil)
      (pss_cons (ps_if (pt_cmpR op_eq (pe_ix ix_tup (pv 2) pe_int (fun _ _ => rfl)) pe_str (nomark _)) (pss_one (ps_ret (pe_lst (pa_cons (pe_tup (pa_cons (pv 1) (pa_cons (pe_op op_catA (pv 2) (pe_tup (pa_cons pe_int pa_nil))) pa_nil))) (pa_cons (pe_tup (pa_cons (pe_call G_done (hr.mono (by omega)) (by rfl) D_done.m D_done.F.kp D_done.b .nil pass0 (pa_cons (pv 0) (pa_cons (pe_ix ix_tup (pv 2) pe_int (fun _ _ => rfl)) (pa_cons (pv 1) pa_nil)))) (pa_cons (pe_op op_catA (pv 2) (pe_tup (pa_cons pe_int pa_nil))) pa_nil))) pa_nil))))) pss_nil)
      (pss_cons (ps_if (pt_cmpR op_eq (pe_ix ix_tup (pv 2) pe_int (fun _ _ => rfl)) pe_str (nomark _)) (pss_one (ps_ret (pe_lc (own := [("_law_value", 3)]) (g := gName 3) rfl sc__law_happens.nd (pi_range1 (by rfl) B.range (pa_cons (pe_ix ix_tup (pe_ix ix_tup (pv 0) pe_int (fun _ _ => rfl)) (pe_ix ix_tup (pv 2) pe_int (fun _ _ => rfl)) (fun _ _ => rfl)) pa_nil)) (blkOk_by (N := ["_law_house_here", "_law_content", "_law_item_here", "_law_value"]) (sc := defScope s__law_happens) (by decide +kernel)) (fun _ _ _ _ _ => (pg_name (i := 3) sc__law_happens.nd rfl (Or.inl rfl))) (fun _ _ _ _ _ => pts_nil) (fun _ _ _ _ _ => (pe_tup (pa_cons (pe_call G_put (hr.mono (by omega)) (by rfl) D_put.m D_put.F.kp D_put.b .nil pass0 (pa_cons (pv 1) (pa_cons (pe_ix (ixT K) (pv 2) pe_int (fun _ _ => rfl)) (pa_cons (pv 3) pa_nil)))) (pa_cons (pe_op (catT K) (pv 2) (pe_tup (pa_cons (pv 3) pa_nil))) pa_nil))))))) pss_nil)
      (pss_cons (ps_if (pt_cmpR op_eq (pe_ix ix_tup (pv 2) pe_int (fun _ _ => rfl)) pe_str (nomark _)) (pss_one (ps_ret (pe_lst (pa_cons (pe_tup (pa_cons (pv 1) (pa_cons (pe_op op_catA (pv 2) (pe_tup (pa_cons (pe_ix ix_tup (pe_call G_answered (hr.mono (by omega)) (by rfl) D_answered.m D_answered.F.kp D_answered.b .nil pass0 (pa_cons (pv 0) (pa_cons (pe_ix ix_tup (pv 2) pe_int (fun _ _ => rfl)) (pa_cons (pv 1) pa_nil)))) pe_int (fun _ _ => rfl)) pa_nil))) pa_nil))) pa_nil)))) pss_nil)
      (pss_one (ps_ret (pe_lst (pa_cons (pe_tup (pa_cons (pv 1) (pa_cons (pv 2) pa_nil))) pa_nil)))))))), ?_⟩
    have hxl : x.length ≤ 1000 := by rw [hx.1]; exact Nat.le_trans ho.s3 (by decide)
    have no : ∀ {gs : List (V × AV)} {env : List AV} {te : TE} {wd : Str} {rest : List PyData} {u : Str} {b : Bool}, EvD T none H gs env te (.tuple (.str wd :: rest)) → decide (wd = u) = b → EvT T none H gs env (tTest (tOp rEq (tOp (rIxT K) te (tC (.int 0))) (tC (.str u)))) (· = b) := fun he hb => et (ev_eqStrB (ev_ix he ev_i (atI_nat (j := 0) rfl)) ev_s hb)
    have one : ∀ {gs : List (V × AV)} {env : List AV} {te : TE} {d : PyData}, EvD T none H gs env te d → EvL T none H gs env (tLst (tCons te tNil)) (· = [d]) := fun h => el_lst (eu_c h eu_nil) fun ds e => by rw [e]; exact Nat.le_of_ble_eq_true rfl
    have bt : ∀ {gs : List (V × AV)} {env : List AV} {ta tb : TE} {d e : PyData}, EvD T none H gs env ta d → EvD T none H gs env tb e → EvD T none H gs env (tTup (tCons ta (tCons tb tNil))) (.tuple [d, e]) := fun h1 h2 => ev_tup (eu_c h1 (eu_c h2 eu_nil))
    cases i with
    | deed kk =>
      refine sq (st_yes F0 (no (wd := "deed") (rest := [dN kk]) (ev_v rfl) (by decide +kernel)) fun H1 e1 F1 => ?_)
      dsimp only
      exact st_retL F1 (one (bt (ev_doneL (ev_v rfl) (ev_ix (ds := [.str "deed", dN kk]) (ev_v rfl) ev_i rfl) (ev_v rfl) ho hi hx) (ev_v rfl))) k
    | perhaps kk =>
      refine sq (st_no F0 (no (wd := "perhaps") (rest := [dN kk]) (ev_v rfl) (by decide +kernel)) fun H1 e1 F1 => ?_)
      dsimp only [tNext]
      refine sq (st_yes F1 (no (wd := "perhaps") (rest := [dN kk]) (ev_v rfl) (by decide +kernel)) fun H2 e2 F2 => ?_)
      dsimp only
      exact st_retL F2 (el_lst (eu_c (bt (ev_v rfl) (ev_cat (xs := [.str "perhaps", dN kk]) (ev_v rfl) (ev_tup (eu_c ev_i eu_nil)) (Nat.le_of_ble_eq_true rfl))) (eu_c (bt (ev_doneL (ev_v rfl) (ev_ix (ds := [.str "perhaps", dN kk]) (ev_v rfl) ev_i rfl) (ev_v rfl) ho hi hx) (ev_cat (xs := [.str "perhaps", dN kk]) (ev_v rfl) (ev_tup (eu_c ev_i eu_nil)) (Nat.le_of_ble_eq_true rfl))) eu_nil)) fun ds e => by rw [e]; exact Nat.le_of_ble_eq_true rfl) k
    | stir c =>
      have hz := at_sz hi 0
      have hz4 := ho.sz _ (List.mem_of_getElem? hz)
      have hxc := hx.get hz
      refine sq (st_no F0 (no (wd := "stir") (rest := [dN c]) (ev_v rfl) (by decide +kernel)) fun H1 e1 F1 => ?_)
      dsimp only [tNext]
      refine sq (st_no F1 (no (wd := "stir") (rest := [dN c]) (ev_v rfl) (by decide +kernel)) fun H2 e2 F2 => ?_)
      dsimp only [tNext]
      refine sq (st_yes F2 (no (wd := "stir") (rest := [dN c]) (ev_v rfl) (by decide +kernel)) fun H3 e3 F3 => ?_)
      dsimp only
      refine st_retL F3 (el_mapR (n := h.sizes.getD c 0) (f := fun v => .tuple [encC (x.set c v), .tuple [.str "stir", dN c, dN v]]) (ev_ix (ev_ix (ev_v rfl) ev_i rfl) (ev_ix (ds := [.str "stir", dN c]) (ev_v rfl) ev_i rfl) (at_N hz)) (by omega) fun v hv => bt (ev_with (ev_v rfl) (ev_ix (ds := [.str "stir", dN c]) (ev_v rfl) ev_i rfl) (ev_v rfl) hxc.2.2 hxl) (ev_cat (xs := [.str "stir", dN c]) (ev_v rfl) (ev_tup (eu_c (ev_v rfl) eu_nil)) (Nat.le_of_ble_eq_true rfl))) fun a ws ds H6 e6 n6 l6 r6 p6 => k a ws ds H6 e6 n6 l6 r6 ?_
      rw [p6, toldU, List.map_map]
      rfl
    | ask q =>
      refine sq (st_no F0 (no (wd := "ask") (rest := [dN q]) (ev_v rfl) (by decide +kernel)) fun H1 e1 F1 => ?_)
      dsimp only [tNext]
      refine sq (st_no F1 (no (wd := "ask") (rest := [dN q]) (ev_v rfl) (by decide +kernel)) fun H2 e2 F2 => ?_)
      dsimp only [tNext]
      refine sq (st_no F2 (no (wd := "ask") (rest := [dN q]) (ev_v rfl) (by decide +kernel)) fun H3 e3 F3 => ?_)
      dsimp only [tNext]
      refine sq (st_yes F3 (no (wd := "ask") (rest := [dN q]) (ev_v rfl) (by decide +kernel)) fun H4 e4 F4 => ?_)
      dsimp only
      exact st_retL F4 (one (bt (ev_v rfl) (ev_cat (xs := [.str "ask", dN q]) (ev_v rfl) (ev_tup (eu_c (ev_ans (ev_v rfl) (ev_ix (ds := [.str "ask", dN q]) (ev_v rfl) ev_i rfl) (ev_v rfl) ho hi hx) eu_nil)) (Nat.le_of_ble_eq_true rfl)))) k
    | rest =>
      refine sq (st_no F0 (no (wd := "rest") (rest := []) (ev_v rfl) (by decide +kernel)) fun H1 e1 F1 => ?_)
      dsimp only [tNext]
      refine sq (st_no F1 (no (wd := "rest") (rest := []) (ev_v rfl) (by decide +kernel)) fun H2 e2 F2 => ?_)
      dsimp only [tNext]
      refine sq (st_no F2 (no (wd := "rest") (rest := []) (ev_v rfl) (by decide +kernel)) fun H3 e3 F3 => ?_)
      dsimp only [tNext]
      refine sq (st_no F3 (no (wd := "rest") (rest := []) (ev_v rfl) (by decide +kernel)) fun H4 e4 F4 => ?_)
      dsimp only [tNext]
      exact st_retL F4 (one (bt (ev_v rfl) (ev_v rfl))) k
/-! ### all_lived -/
/-- a list that is read, item by item -/
theorem el_mapKE {α : Type} {enc : α → PyData} {po : Option PenD} {Hb : Hp} {gs : List (V × AV)} {env : List AV} {tl te : TE} {i : Nat} {l : List α} {f : α → PyData} (hi : ∀ x ∈ l, ∀ y ∈ l, enc x = enc y → f x = f y) (h : EvK T po Hb gs env tl (· = l.map enc)) (hl : l.length < 16777216)
    (he : ∀ x ∈ l, EvD T po Hb gs (env.set i (.d (enc x))) te (f x)) : EvL T po Hb gs env (tLc (iList K tl) (gName i) tYes te [i]) (· = l.map f) :=
  (el_compK (Pl := fun ds => ds = l.map enc) (fun _ b => b = true) (fun d e => e = onEnc enc l f d) h (fun ds e => by rw [e, List.length_map]; exact hl) (fun _ _ _ _ => et_yes) (fun ds e d hd _ => by
    subst e
    obtain ⟨x, hx, rfl⟩ := List.mem_map.mp hd
    rw [onEnc_at hi hx]
    exact (he x hx).ev)).imp fun out ⟨ds, e, hR⟩ => by
    subst e
    rw [hR.map (f := onEnc enc l f) (fun d e h => h), List.map_map]
    exact List.map_congr_left fun x hx => onEnc_at hi hx
theorem encHist_inj : ∀ {x y : List TEv}, encHist x = encHist y → x = y
  | [], [], _ => rfl
  | [], _ :: _, h => nomatch PyData.tuple.inj h
  | _ :: _, [], h => nomatch PyData.tuple.inj h
  | a :: x, b :: y, h => by
    obtain ⟨h1, h2⟩ := List.cons.inj (PyData.tuple.inj h)
    rw [encTE_inj h1, encHist_inj (congrArg PyData.tuple h2)]
theorem flatMap_ext {α β : Type} {f g : α → List β} (h : ∀ x, f x = g x) {l : List α} : l.flatMap f = l.flatMap g := by rw [show f = g from funext h]
theorem flatMap_take {α β : Type} {f : α → List β} {l : List α} {j : Nat} {x : α} (h : l[j]? = some x) : (l.take (j + 1)).flatMap f = (l.take j).flatMap f ++ f x := by rw [take_snoc h, List.flatMap_append, List.flatMap_cons, List.flatMap_nil, List.append_nil]
structure LArg where
  h : House
  r : Route
  p : Nat
  sd : PyData
  s : List Con
  w : Way
  x : Con
def spLived (T : List (Addr × Str)) (n : Nat) : Sp := SpL T (α := LArg) (fun a => [.d (encH a.h), .d (encR a.r), .d (.tuple [dN a.p, a.sd]), .d (encW a.w), .d (encC a.x)])
  (fun a => HouseOk a.h ∧ RouteOk a.h a.r ∧ a.p < a.r.length ∧ SetOk a.h a.s ∧ WayOk a.h a.r a.p a.s a.w ∧ a.x ∈ a.s ∧ a.w.dep ≤ n ∧ a.w.ons ≤ 4) (fun a ds => ds = (livedW a.h a.r a.p a.x a.w).map encHist)
theorem ok_lived (B : Bi mg) {f : Addr} {fd : FuncData} (D : Df K mg "_law_all_lived" s__law_all_lived f fd ["_law_house_here", "_law_route_here", "_law_stand", "_law_way_here", "_law_content"]) (C1 : Cal P w K mg base "_law_happens" s__law_happens ["_law_house_here", "_law_content", "_law_item_here"] 2 (spHappens T)) : ∀ n, n ≤ 1000 →
    FnOk P w K mg base CX0 (3 + n) f fd ["_law_house_here", "_law_route_here", "_law_stand", "_law_way_here", "_law_content"] (spLived T n)
  | 0, _ => fn_none fun vs H Q E h => by
    obtain ⟨a, _, ⟨_, _, _, _, _, _, hd, _⟩, _⟩ := h
    have := dep_pos a.w
    omega
  | n + 1, hn => by
    have G_all_lived := ok_lived B D C1 n (by omega)
    have D_all_lived := D
    obtain ⟨fa, fda, D_happens, G_happens⟩ := C1
    refine D.F.ok (k := 3 + n) sc__law_all_lived (fun vs H Q E h => ?_) (fun cdv A outer s H vs Q E hr h => ?_)
    · obtain ⟨a, h1, _⟩ := h
      exact h1.len
    · obtain ⟨⟨h, r, p, sd, ss, w, x⟩, ⟨ho, hro, hp, hs, hw, hx, hd, ho4⟩, F0, k⟩ := SpL.ent (N := ["_law_house_here", "_law_route_here", "_law_stand", "_law_way_here", "_law_content", "_law_place", "_law_some", "_law_found", "_law_rest", "_law_here", "_law_told", "_law_later", "_law_part", "_law_one"]) h (fun _ => Nat.le_of_ble_eq_true rfl)
      dsimp only at *
      refine ⟨_, (pss_cons (ps_asg (pv 2) (pg_tup (by rfl) (pgs_cons (pg_name (i := 5) sc__law_all_lived.nd rfl (Or.inl rfl)) (pgs_cons (pg_name (i := 6) sc__law_all_lived.nd rfl (Or.inl rfl)) pgs_nil))))
      (pss_cons (ps_if (pt_cmpR op_eq (pe_ix ix_tup (pv 3) pe_int (fun _ _ => rfl)) pe_str (nomark _)) (pss_one (ps_ret (pe_lst (pa_cons (pe_tup pa_nil) pa_nil)))) pss_nil)
      (pss_cons (ps_set (i := 7) sc__law_all_lived.nd rfl (Or.inl rfl) (pe_lst pa_nil))
      (pss_cons (ps_if (pt_cmpR op_eq (pe_ix ix_tup (pv 3) pe_int (fun _ _ => rfl)) pe_str (nomark _)) (pss_cons (ps_set (i := 8) sc__law_all_lived.nd rfl (Or.inl rfl) (pe_call G_all_lived (hr.mono (by omega)) (by rfl) D_all_lived.m D_all_lived.F.kp D_all_lived.b .nil pass0 (pa_cons (pv 0) (pa_cons (pv 1) (pa_cons (pe_tup (pa_cons (pv 5) (pa_cons (pv 6) pa_nil))) (pa_cons (pe_dget (u1 hr) (pe_callTy (call_dictT rfl) (by rfl) B.dict PyProof.Rows.boot_dict (pa_cons (pe_ix ix_tup (pv 3) pe_int (fun _ _ => rfl)) pa_nil)) (pe_ix ix_tup (pv 4) (pe_ix ix_tup (pv 3) pe_int (fun _ _ => rfl)) (fun _ _ => rfl)) (fun _ _ => rfl)) (pa_cons (pv 4) pa_nil)))))))
      (pss_one (ps_ret (pe_lc (own := [("_law_one", 13)]) (g := gName 13) rfl sc__law_all_lived.nd (pi_list (pv 8)) (blkOk_by (N := ["_law_house_here", "_law_route_here", "_law_stand", "_law_way_here", "_law_content", "_law_place", "_law_some", "_law_found", "_law_rest", "_law_here", "_law_told", "_law_later", "_law_part", "_law_one"]) (sc := defScope s__law_all_lived) (by decide +kernel)) (fun _ _ _ _ _ => (pg_name (i := 13) sc__law_all_lived.nd rfl (Or.inl rfl))) (fun _ _ _ _ _ => pts_nil) (fun _ _ _ _ _ => (pe_op (catT K) (pe_tup (pa_cons (pe_tup (pa_cons pe_str (pa_cons (pe_ix (ixT K) (pv 3) pe_int (fun _ _ => rfl)) (pa_cons (pe_ix (ixT K) (pv 4) (pe_ix (ixT K) (pv 3) pe_int (fun _ _ => rfl)) (fun _ _ => rfl)) pa_nil)))) pa_nil)) (pv 13))))))) pss_nil)
      (pss_cons (ps_for PassesOwn.never rfl (pi_list (pe_call G_happens (hr.mono (by omega)) (by rfl) D_happens.m D_happens.F.kp D_happens.b .nil pass0 (pa_cons (pv 0) (pa_cons (pv 4) (pa_cons (pe_ix ix_tup (pe_ix ix_tup (pv 1) (pv 5) (fun _ _ => rfl)) pe_int (fun _ _ => rfl)) pa_nil))))) (pg_tup (by rfl) (pgs_cons (pg_name (i := 9) sc__law_all_lived.nd rfl (Or.inl rfl)) (pgs_cons (pg_name (i := 10) sc__law_all_lived.nd rfl (Or.inr rfl)) pgs_nil))) (pss_one (ps_for PassesOwn.never rfl (pi_tup (pe_ix ix_tup (pv 3) pe_int (fun _ _ => rfl))) (pg_tup (by rfl) (pgs_cons (pg_name (i := 11) sc__law_all_lived.nd rfl (Or.inr rfl)) (pgs_cons (pg_name (i := 12) sc__law_all_lived.nd rfl (Or.inl rfl)) pgs_nil))) (pss_cons (ps_set (i := 8) sc__law_all_lived.nd rfl (Or.inl rfl) (pe_call G_all_lived (hr.mono (by omega)) (by rfl) D_all_lived.m D_all_lived.F.kp D_all_lived.b .nil pass0 (pa_cons (pv 0) (pa_cons (pv 1) (pa_cons (pe_tup (pa_cons (pv 11) (pa_cons (pv 6) pa_nil))) (pa_cons (pv 12) (pa_cons (pv 9) pa_nil)))))))
      (pss_one (ps_expr (pe_bm PySem.F.plainAttrs_list PySem.F.slot_list_extend PySem.F.type_list_extend mt_extend (pv 7) (pa_cons (pe_lc (own := [("_law_one", 13)]) (g := gName 13) rfl sc__law_all_lived.nd (pi_list (pv 8)) (blkOk_by (N := ["_law_house_here", "_law_route_here", "_law_stand", "_law_way_here", "_law_content", "_law_place", "_law_some", "_law_found", "_law_rest", "_law_here", "_law_told", "_law_later", "_law_part", "_law_one"]) (sc := defScope s__law_all_lived) (by decide +kernel)) (fun _ _ _ _ _ => (pg_name (i := 13) sc__law_all_lived.nd rfl (Or.inl rfl))) (fun _ _ _ _ _ => pts_nil) (fun _ _ _ _ _ => (pe_op (catT K) (pe_tup (pa_cons (pv 10) (pa_cons (pe_tup (pa_cons pe_str (pa_cons (pv 11) pa_nil))) pa_nil))) (pv 13)))) pa_nil))))))))
      (pss_one (ps_ret (pv 7)))))))), ?_⟩
      refine sq (st_set2 (x := dN p) (y := sd) F0 (ev_v rfl) fun v1 v2 H1 e1 F1 => ?_)
      dsimp only
      have no : ∀ {gs : List (V × AV)} {env : List AV} {te : TE} {wd : Str} {rest : List PyData} {u : Str} {b : Bool}, EvD T none H gs env te (.tuple (.str wd :: rest)) → decide (wd = u) = b → EvT T none H gs env (tTest (tOp rEq (tOp (rIxT K) te (tC (.int 0))) (tC (.str u)))) (· = b) := fun he hb => et (ev_eqStrB (ev_ix he ev_i (atI_nat (j := 0) rfl)) ev_s hb)
      cases w with
      | fin =>
        have way : ∀ {gs : List (V × AV)} {env : List AV}, env[3]? = some (.d (encW .fin)) → EvD T none H gs env (tVar 3) (.tuple [.str "end"]) := fun h => ev_v (i := 3) (h.trans (by rw [encW]))
        refine sq (st_yes F1 (no (way rfl) (by decide +kernel)) fun H2 e2 F2 => ?_)
        dsimp only
        refine st_retL F2 (el_lst (Pr := fun l => l = [encHist []]) (eu_c (ev_tup eu_nil) eu_nil) (fun ds e => by rw [e]; exact Nat.le_of_ble_eq_true rfl)) fun a ws ds H3 e3 n3 l3 r3 p3 => k a ws ds H3 e3 n3 l3 r3 ?_
        rw [p3, livedW]
        rfl
      | look c ws =>
        obtain ⟨hc, hnd, h1, h2⟩ := way_look hw
        obtain ⟨w1, hm⟩ := h2 x hx (hs.all x hx)
        obtain ⟨hne, hw1⟩ := h1 _ hm
        have hxc := (hs.all x hx).get (at_sz hc 0)
        rw [Way.dep] at hd
        rw [Way.ons] at ho4
        have hd1 : w1.dep ≤ n := Nat.le_trans (Ways.dep_le hm) (by omega)
        have ho1 : w1.ons ≤ 4 := Nat.le_trans (Ways.ons_le hm) ho4
        have way : ∀ {gs : List (V × AV)} {env : List AV}, env[3]? = some (.d (encW (.look c ws))) → EvD T none H gs env (tVar 3) (.tuple [.str "look", dN c, .dict (encWs ws)]) := fun h => ev_v (i := 3) (h.trans (by rw [encW]))
        have wc : ∀ {gs : List (V × AV)} {env : List AV}, env[3]? = some (.d (encW (.look c ws))) → EvD T none H gs env (tOp (rIxT K) (tVar 3) (tC (.int 1))) (dN c) := fun h => ev_ix (way h) ev_i rfl
        have xc : ∀ {gs : List (V × AV)} {env : List AV}, env[3]? = some (.d (encW (.look c ws))) → env[4]? = some (.d (encC x)) → EvD T none H gs env (tOp (rIxT K) (tVar 4) (tOp (rIxT K) (tVar 3) (tC (.int 1)))) (dN (x.getD c 0)) := fun h h4 => ev_ix (ev_v h4) (wc h) (at_N hxc.1)
        refine sq (st_no F1 (no (way rfl) (by decide +kernel)) fun H2 e2 F2 => ?_)
        dsimp only [tNext]
        refine sq (st_setL F2 (el_lst eu_nil (fun ds e => by rw [e]; decide)) fun a7 ds7 H3 e3 F3 n3 p3 => ?_)
        subst p3
        dsimp only
        refine sq (st_yes F3 (no (way rfl) (by decide +kernel)) fun H4 e4 F4 => ?_)
        dsimp only
        have hso : SetOk h (sawC ss c (x.getD c 0)) := saw_ok hs.g hne
        have hxm : x ∈ sawC ss c (x.getD c 0) := List.mem_filter.mpr ⟨hx, by simp⟩
        have hlen := lived_len ho hro n w1 p _ x hd1 hw1 hso hxm
        have hpow : 12 ^ w1.ons ≤ 12 ^ 4 := Nat.pow_le_pow_right (by decide) ho1
        have hpow4 : (12 : Nat) ^ 4 = 20736 := by decide
        refine sq (st_setL (Pl := fun ds => ds = (livedW h r p x w1).map encHist) F4 (el_c (args := fun a : LArg => [.d (encH a.h), .d (encR a.r), .d (.tuple [dN a.p, a.sd]), .d (encW a.w), .d (encC a.x)]) ⟨h, r, p, sd, sawC ss c (x.getD c 0), w1, x⟩ (ea_c (ev_v rfl) (ea_c (ev_v rfl) (ea_c (ev_tup (eu_c (ev_v rfl) (eu_c (ev_v rfl) eu_nil))) (ea_c (ev_pick (l := ws.list.map fun q => (q.1, encW q.2)) ((ev_ix (way rfl) ev_i rfl).to (by rw [encWs_list, List.map_map]; rfl)) (xc rfl rfl) (by rw [List.map_map]; exact hnd) (List.mem_map.mpr ⟨_, hm, rfl⟩)) (ea_c (ev_v rfl) ea_nil))))) ⟨ho, hro, hp, hso, hw1, hxm, hd1, ho1⟩) fun a8 ds8 H5 e5 F5 n5 p5 => ?_)
        subst p5
        dsimp only
        refine st_retL F5 (el_mapKE (enc := encHist) (f := fun l => encHist (.saw c (x.getD c 0) :: l)) (fun l1 _ l2 _ e => by rw [encHist_inj e]) (ek_l rfl) (by omega) fun l hl => (ev_cat (xs := [.tuple [.str "saw", dN c, dN (x.getD c 0)]]) (ys := l.map encTE) (ev_tup (eu_c (ev_tup (eu_c ev_s (eu_c (wc rfl) (eu_c (xc rfl rfl) eu_nil)))) eu_nil)) (ev_v rfl) (by have := lived_short n w1 p x hd1 l hl; rw [List.length_map]; show 1 + _ ≤ _; omega))) fun a ws6 ds H6 e6 n6 l6 r6 p6 => k a ws6 ds H6 e6 n6 l6 r6 ?_
        rw [p6, livedW, livedLook_at hnd hm, List.map_map]
        rfl
      | on ws =>
        obtain ⟨it, ns, hrp, hb, hl, h1⟩ := way_on hw
        have hit : ItemOk h it := hro.items _ (List.mem_of_getElem? hrp)
        have hns := hro.nexts p it ns hrp
        have hxo := hs.all x hx
        rw [Way.dep] at hd
        rw [Way.ons] at ho4
        have hpow : 12 ^ ws.ons ≤ 12 ^ 3 := Nat.pow_le_pow_right (by decide) (by omega)
        have hpow3 : (12 : Nat) ^ 3 = 1728 := by decide
        have few : ∀ b ∈ toldU h x (.item it), ∀ q ∈ ws.list, (livedW h r q.1 b.1 q.2).length ≤ 1728 := fun b hb q hq => by
          have z := lived_len ho hro n q.2 q.1 (behindC h it ss) b.1 (Nat.le_trans (Ways.dep_le hq) (by omega)) (h1 q hq).2 (beh_ok ho hit hs) (told_beh ho hit hs.all hx (show (b.1, b.2) ∈ _ from hb))
          have z2 : 12 ^ q.2.ons ≤ 12 ^ ws.ons := Nat.pow_le_pow_right (by decide) (Ways.ons_le hq)
          omega
        have way : ∀ {gs : List (V × AV)} {env : List AV}, env[3]? = some (.d (encW (.on ws))) → EvD T none H gs env (tVar 3) (.tuple [.str "on", .dict (encWs ws)]) := fun h => ev_v (i := 3) (h.trans (by rw [encW]))
        refine sq (st_no F1 (no (way rfl) (by decide +kernel)) fun H2 e2 F2 => ?_)
        dsimp only [tNext]
        refine sq (st_setL F2 (el_lst eu_nil (fun ds e => by rw [e]; decide)) fun a7 ds7 H3 e3 F3 n3 p3 => ?_)
        subst p3
        dsimp only
        refine sq (st_no F3 (no (way rfl) (by decide +kernel)) fun H4 e4 F4 => ?_)
        dsimp only [tNext]
        let part : Con × TEv → Nat × Way → List (List TEv) := fun b q => (livedW h r q.1 b.1 q.2).map fun l => b.2 :: .to q.1 :: l
        let row : Con × TEv → List (List TEv) := fun b => ws.list.flatMap (part b)
        have rowlen : ∀ b ∈ toldU h x (.item it), ∀ m, ((ws.list.take m).flatMap (part b)).length ≤ 5184 := fun b hb m => by
          have z := fm_len (f := part b) (B := 1728) (l := ws.list.take m) fun q hq => by
            show ((livedW h r q.1 b.1 q.2).map _).length ≤ _
            rw [List.length_map]
            exact few b hb q (List.mem_of_mem_take hq)
          have z2 : (ws.list.take m).length ≤ ws.list.length := by rw [List.length_take]; exact Nat.min_le_right _ _
          have := hns.2.1
          omega
        have alllen : ∀ n, (((toldU h x (.item it)).take n).flatMap row).length ≤ 20736 := fun n => by
          have z := fm_len (f := row) (B := 5184) (l := (toldU h x (.item it)).take n) fun b hb => by
            have := rowlen b (List.mem_of_mem_take hb) ws.list.length
            rw [List.take_length] at this
            exact this
          have z2 : ((toldU h x (.item it)).take n).length ≤ (toldU h x (.item it)).length := by rw [List.length_take]; exact Nat.min_le_right _ _
          have := told_len ho hit x
          omega
        refine sq (st_forL (Pl := fun l => l = (toldU h x (.item it)).map encBT) (fun ds j env' σ' H' => ∃ x8 x9 x10 x11 x12 x13, env' = [.d (encH h), .d (encR r), .d (.tuple [dN p, sd]), .d (encW (.on ws)), .d (encC x), .d (dN p), .d sd, .l ((((toldU h x (.item it)).take j).flatMap row).map encHist), x8, x9, x10, x11, x12, x13]) F4 (el_c (args := fun a : House × Con × Item => [.d (encH a.1), .d (encC a.2.1), .d (encItem a.2.2)]) (h, x, it) (ea_c (ev_v rfl) (ea_c (ev_v rfl) (ea_c (ev_ix (ds := [encItem it, dNs ns]) (ev_ix (ev_v rfl) (ev_v rfl) (at_Pl hrp)) ev_i rfl) ea_nil))) ⟨ho, hxo, hit⟩) (fun ds H5 e5 p5 => ⟨_, _, _, _, _, _, rfl⟩) (fun v0 ds j d v env' σ' H' p5 hd5 F' hI hv => ?_) (fun ds env' σ' H' p5 F' hI => ?_))
        · obtain ⟨x8, x9, x10, x11, x12, x13, rfl⟩ := hI
          subst p5
          rw [List.getElem?_map] at hd5
          obtain ⟨b, hbj, rfl⟩ := Option.map_eq_some_iff.mp hd5
          have hbm := List.mem_of_getElem? hbj
          refine gN2 F' hv fun v1 v2 F5 => ?_
          refine st_forI (Pl := fun l => l = (encWs ws).map prD) (fun ds m env'' => ∃ x8 x11 x12 x13, env'' = [.d (encH h), .d (encR r), .d (.tuple [dN p, sd]), .d (encW (.on ws)), .d (encC x), .d (dN p), .d sd, .l ((((toldU h x (.item it)).take j).flatMap row ++ (ws.list.take m).flatMap (part b)).map encHist), x8, .d (encC b.1), .d (encTE b.2), x11, x12, x13]) F5 (ei_fz (ev_ix (way rfl) ev_i rfl)) (fun ds p6 => ⟨_, _, _, _, by rw [List.take_zero, List.flatMap_nil, List.append_nil]; rfl⟩) (fun gs' ds m d v env'' σ'' H'' p6 hd6 F'' hI hv => ?_) (fun ds env'' σ'' H'' p6 F'' hI => ?_)
          · obtain ⟨y8, y11, y12, y13, rfl⟩ := hI
            subst p6
            rw [encWs_list, List.map_map, List.getElem?_map] at hd6
            obtain ⟨q, hqm, rfl⟩ := Option.map_eq_some_iff.mp hd6
            have hq := List.mem_of_getElem? hqm
            obtain ⟨hqn, hqw⟩ := h1 q hq
            have hdq : q.2.dep ≤ n := Nat.le_trans (Ways.dep_le hq) (by omega)
            have hoq : q.2.ons ≤ 4 := Nat.le_trans (Ways.ons_le hq) (by omega)
            have hb1 := told_beh ho hit hs.all hx (show (b.1, b.2) ∈ _ from hbm)
            have hf := few b hbm q hq
            refine gN2 F'' hv fun v3 v4 F7 => ?_
            refine sq (st_setL (Pl := fun ds => ds = (livedW h r q.1 b.1 q.2).map encHist) F7 (el_c (args := fun a : LArg => [.d (encH a.h), .d (encR a.r), .d (.tuple [dN a.p, a.sd]), .d (encW a.w), .d (encC a.x)]) ⟨h, r, q.1, sd, behindC h it ss, q.2, b.1⟩ (ea_c (ev_v rfl) (ea_c (ev_v rfl) (ea_c (ev_tup (eu_c (ev_v rfl) (eu_c (ev_v rfl) eu_nil))) (ea_c (ev_v rfl) (ea_c (ev_v rfl) ea_nil))))) ⟨ho, hro, (hns.2.2.2 q.1 hqn).1, beh_ok ho hit hs, hqw, hb1, hdq, hoq⟩) fun a8 ds8 H8 e8 F8 n8 p8 => ?_)
            subst p8
            dsimp only
            have ha := alllen j
            have hr2 := rowlen b hbm m
            refine st_ext F8 (i := 7) (Pl := fun l => l = (part b q).map encHist) rfl (fun ys e => ?_) ((el_mapKE (enc := encHist) (f := fun l => encHist (b.2 :: .to q.1 :: l)) (fun l1 _ l2 _ e => by rw [encHist_inj e]) (ek_l rfl) (by omega) fun l hl => (ev_cat (xs := [encTE b.2, .tuple [.str "to", dN q.1]]) (ys := l.map encTE) (ev_tup (eu_c (ev_v rfl) (eu_c (ev_tup (eu_c ev_s (eu_c (ev_v rfl) eu_nil))) eu_nil))) (ev_v rfl) (by have := lived_short n q.2 q.1 b.1 hdq l hl; rw [List.length_map]; show 2 + _ ≤ _; omega))).k.imp fun ds e => ?_) fun ys H9 F9 tk e => ?_
            · rw [e, List.length_map, List.length_map, List.length_append]
              show _ + ((livedW h r q.1 b.1 q.2).map _).length ≤ _
              rw [List.length_map]
              omega
            · rw [e]
              show _ = ((livedW h r q.1 b.1 q.2).map _).map _
              rw [List.map_map]
              rfl
            · subst e
              rw [← List.map_append, List.append_assoc, ← flatMap_take hqm] at F9
              exact ⟨_, F9, _, _, _, _, rfl⟩
          · obtain ⟨y8, y11, y12, y13, rfl⟩ := hI
            subst p6
            rw [encWs_list, List.length_map, List.length_map, List.take_length] at F''
            have F9 := F''
            rw [show ws.list.flatMap (part b) = row b from rfl, ← flatMap_take hbj] at F9
            exact ⟨_, F9, _, _, _, _, _, _, rfl⟩
        · obtain ⟨x8, x9, x10, x11, x12, x13, rfl⟩ := hI
          subst p5
          rw [List.length_map, List.take_length] at F'
          dsimp only
          refine st_retV F' rfl fun a vs e n l r3 => k a vs _ _ e n l r3 ?_
          rw [livedW, item_at hrp]
          congr 1
          exact flatMap_ext fun b : Con × TEv => (livedOn_flat h r b.1 b.2 ws).symm
end
end K22
/-! LG: a way drawn. -/
namespace K22
open PySem PySem.Spec L2 LamX
abbrev s__law_way : Stmt := topS 45
theorem sc__law_way : FnScope ["_law_pen_here", "_law_house_here", "_law_route_here", "_law_stand", "_law_rounds", "_law_looks", "_law_place", "_law_some", "_law_later", "_law_cell", "_law_left", "_law_several", "_law_ways", "_law_value", "_law_part", "_law_one"] ["_law_pen_here", "_law_house_here", "_law_route_here", "_law_stand", "_law_rounds", "_law_looks"] (defScope s__law_way) := ⟨rfl, rfl, rfl, by decide +kernel, rfl, by decide +kernel, by decide +kernel⟩
/-! ### ways made of lists -/
def Ways.of : List (Nat × Way) → Ways
  | [] => .nil
  | q :: r => .cons q.1 q.2 (Ways.of r)
theorem Ways.of_list : ∀ l : List (Nat × Way), (Ways.of l).list = l
  | [] => by rw [Ways.of, Ways.list]
  | q :: r => by rw [Ways.of, Ways.list, Ways.of_list r]
theorem WaysOk.of {h : House} {r : Route} : ∀ {l : List (Nat × Nat × List Con)} {wl : List (Nat × Way)}, Paired (fun q x => x.1 = q.1 ∧ WayOk h r q.2.1 q.2.2 x.2) l wl → WaysOk h r l (Ways.of wl)
  | _, _, .nil => .nil
  | (k, p, s) :: _, x :: _, .cons h1 h2 => by
    obtain ⟨e, hw⟩ := h1
    have e : x.1 = k := e
    subst e
    exact .cons hw (WaysOk.of h2)
theorem Ways.dep_of {n : Nat} : ∀ {l : List (Nat × Way)}, (∀ x ∈ l, x.2.dep ≤ n) → (Ways.of l).dep ≤ n
  | [], _ => by rw [Ways.of, Ways.dep]; exact Nat.zero_le _
  | q :: r, h => by
    rw [Ways.of, Ways.dep]
    exact Nat.max_le.mpr ⟨h q List.mem_cons_self, Ways.dep_of fun x hx => h x (List.mem_cons_of_mem _ hx)⟩
theorem Ways.ons_of {n : Nat} : ∀ {l : List (Nat × Way)}, (∀ x ∈ l, x.2.ons ≤ n) → (Ways.of l).ons ≤ n
  | [], _ => by rw [Ways.of, Ways.ons]; exact Nat.zero_le _
  | q :: r, h => by
    rw [Ways.of, Ways.ons]
    exact Nat.max_le.mpr ⟨h q List.mem_cons_self, Ways.ons_of fun x hx => h x (List.mem_cons_of_mem _ hx)⟩
theorem pair_map_l {α β γ : Type} {R : γ → β → Prop} {f : α → γ} : ∀ {xs : List α} {ys : List β}, Paired (fun x y => R (f x) y) xs ys → Paired R (xs.map f) ys
  | [], _, .nil => .nil
  | x :: xs, _, .cons h1 h2 => by
    rw [List.map_cons]
    exact .cons h1 (pair_map_l h2)
theorem pair_imp {α β : Type} {R S : α → β → Prop} {xs : List α} {ys : List β} (h : Paired R xs ys) (i : ∀ x y, R x y → S x y) : Paired S xs ys := by
  induction h with
  | nil => exact .nil
  | cons h1 _ ih => exact .cons (i _ _ h1) ih
theorem encS_inj : ∀ {x y : List Con}, encS x = encS y → x = y
  | [], [], _ => rfl
  | [], _ :: _, h => nomatch PyData.tuple.inj h
  | _ :: _, [], h => nomatch PyData.tuple.inj h
  | a :: x, b :: y, h => by
    obtain ⟨h1, h2⟩ := List.cons.inj (PyData.tuple.inj h)
    rw [encC_inj h1, encS_inj (congrArg PyData.tuple h2)]
theorem encPart_inj {x y : Nat × List Con} (h : encPart x = encPart y) : x = y := by
  obtain ⟨h1, h2⟩ := List.cons.inj (PyData.tuple.inj h)
  obtain ⟨h3, _⟩ := List.cons.inj h2
  have e1 : x.1 = y.1 := by have := PyData.int.inj h1; omega
  exact Prod.ext e1 (encS_inj h3)
abbrev encB (q : Nat × Way) : PyData := .tuple [dN q.1, encW q.2]
theorem ways_all {R : Nat × List Con → Nat × Way → Prop} : ∀ {l : List (Nat × List Con)} {out : List PyData}, Paired (fun d e => ∃ x, d = encPart x ∧ ∃ w, e = encB w ∧ R x w) (l.map encPart) out → ∃ wl, out = wl.map encB ∧ Paired R l wl
  | [], _, h => by
    cases h
    exact ⟨[], rfl, .nil⟩
  | q :: l, _, h => by
    rw [List.map_cons] at h
    cases h with
    | cons h1 h2 =>
      obtain ⟨x, ex, w, ew, hr⟩ := h1
      obtain ⟨wl, e1, e2⟩ := ways_all h2
      rw [← encPart_inj ex] at hr
      exact ⟨w :: wl, by rw [ew, e1]; rfl, .cons hr e2⟩
theorem encWs_of (wl : List (Nat × Way)) : encWs (Ways.of wl) = wl.map fun q => (dN q.1, encW q.2) := by rw [encWs_list, Ways.of_list]
theorem CompR.has {Pb : PyData → Bool → Prop} {Pe : PyData → PyData → Prop} {ds out : List PyData} (h : CompR Pb Pe ds out) {d : PyData} (hd : d ∈ ds) (ht : ∀ b, Pb d b → b = true) : ∃ e ∈ out, Pe d e := by
  induction h with
  | nil => cases hd
  | skip _ hf ih =>
    rcases List.mem_append.mp hd with hd | hd
    · exact ih hd
    · have e := List.mem_singleton.mp hd
      subst e
      cases ht _ hf
  | keep _ _ hp ih =>
    rcases List.mem_append.mp hd with hd | hd
    · obtain ⟨e, he, hq⟩ := ih hd
      exact ⟨e, List.mem_append_left _ he, hq⟩
    · have e := List.mem_singleton.mp hd
      subst e
      exact ⟨_, List.mem_append_right _ (List.mem_singleton.mpr rfl), hp⟩
/-! ### where going on is not possible, some look parts the set -/
theorem blocked_diff {h : House} {s : List Con} {q : Nat} (hb : verdictC h q s = none) (hne : s ≠ []) : ∃ x ∈ s, ∃ y ∈ s, x ≠ y := by
  cases s with
  | nil => exact absurd rfl hne
  | cons x r =>
    have hb : (if r.all (fun y => decide (ansC h q y = ansC h q x)) = true then some (ansC h q x) else none) = none := hb
    by_cases e : r.all (fun y => decide (ansC h q y = ansC h q x)) = true
    · rw [if_pos e] at hb
      cases hb
    · obtain ⟨y, hy, hn⟩ : ∃ y ∈ r, ansC h q y ≠ ansC h q x := by
        refine Classical.byContradiction fun hc => e (List.all_eq_true.mpr fun y hy => decide_eq_true ?_)
        exact Classical.byContradiction fun hn => hc ⟨y, hy, hn⟩
      exact ⟨x, List.mem_cons_self, y, List.mem_cons_of_mem _ hy, fun e => hn (by rw [e])⟩
theorem con_diff {sizes : List Nat} {x y : Con} (hx : ConOk sizes x) (hy : ConOk sizes y) (hxy : x ≠ y) : ∃ c, c < sizes.length ∧ x.getD c 0 ≠ y.getD c 0 := by
  refine Classical.byContradiction fun hc => hxy (List.ext_getElem? fun i => ?_)
  by_cases hi : i < sizes.length
  · have e : x.getD i 0 = y.getD i 0 := Classical.byContradiction fun hn => hc ⟨i, hi, hn⟩
    have hz := at_sz hi 0
    rw [(hx.get hz).1, (hy.get hz).1, e]
  · rw [List.getElem?_eq_none (by rw [hx.1]; omega), List.getElem?_eq_none (by rw [hy.1]; omega)]
theorem parted_two {h : House} {s : List Con} {c : Nat} {x y : Con} (hc : c < h.sizes.length) (hx : x ∈ s) (hy : y ∈ s) (hxo : ConOk h.sizes x) (hyo : ConOk h.sizes y) (hd : x.getD c 0 ≠ y.getD c 0) : 1 < (partedC h s c).length := by
  have h1 := parted_has hc hx hxo
  have h2 := parted_has hc hy hyo
  cases e : partedC h s c with
  | nil => rw [e] at h1; cases h1
  | cons a r =>
    cases r with
    | nil =>
      rw [e] at h1 h2
      have e1 := List.mem_singleton.mp h1
      have e2 := List.mem_singleton.mp h2
      exact absurd (congrArg Prod.fst (e1.trans e2.symm)) hd
    | cons b r => exact Nat.succ_lt_succ (Nat.succ_pos _)
theorem parted_less {h : House} {s : List Con} {c : Nat} (h2 : 1 < (partedC h s c).length) {q : Nat × List Con} (hq : q ∈ partedC h s c) : q.2.length < s.length := by
  obtain ⟨q', hq', hne⟩ : ∃ q' ∈ partedC h s c, q'.1 ≠ q.1 := by
    have nd := parted_keys h s c
    revert nd h2 hq
    generalize partedC h s c = l
    intro h2 hq nd
    match l, h2, nd with
    | a :: b :: r, _, nd =>
      rw [List.map_cons, List.map_cons] at nd
      have hab : a.1 ≠ b.1 := fun e => (List.nodup_cons.mp nd).1 (by rw [e]; exact List.mem_cons_self)
      by_cases e : q.1 = a.1
      · exact ⟨b, List.mem_cons_of_mem _ List.mem_cons_self, fun z => hab (e.symm.trans z.symm)⟩
      · exact ⟨a, List.mem_cons_self, fun z => e z.symm⟩
  obtain ⟨_, e1, _⟩ := parted_mem hq
  obtain ⟨_, e2, e3⟩ := parted_mem hq'
  rw [e1]
  cases hs : q'.2 with
  | nil => exact absurd hs e3
  | cons x r =>
    have hx : x ∈ sawC s c q'.1 := by rw [← e2, hs]; exact List.mem_cons_self
    obtain ⟨h3, h4⟩ := List.mem_filter.mp hx
    refine List.length_filter_lt_length_iff_exists.mpr ⟨x, h3, ?_⟩
    have h5 := of_decide_eq_true h4
    simp only [decide_eq_true_eq]
    exact fun z => hne (h5.symm.trans z)
theorem parted_le {h : House} {s : List Con} {c : Nat} {q : Nat × List Con} (hq : q ∈ partedC h s c) : q.2.length ≤ s.length := by
  obtain ⟨_, e1, _⟩ := parted_mem hq
  rw [e1]
  exact List.length_filter_le _ _
section
variable {T : List (Addr × Str)} {po : Option PenD} {Hb : Hp} {gs : List (V × AV)} {env : List AV} {H : Hp} {σ : L2.St} {K : PySem.W.Frag} {ta tb te : TE} {D : Ends} {i j k : Nat}
theorem ev_tupleD {kvs : List (PyData × PyData)} (h : EvK T po Hb gs env ta (· = kvs.map fun p => .tuple [p.1, p.2])) : EvD T po Hb gs env (tThen ta (kTupF K)) (.dict kvs) := fun σ H F Q q => by
  refine h σ H F _ fun a vs ds H1 e1 F1 np h1 r1 ed => ?_
  subst ed
  refine ⟨a, vs, rfl, SqL.of h1, fun p o hp hd => ?_⟩
  have e2 : Ex T po H1 (upd H1 p (.frz o (.tup vs))) := Ex.new hp
  exact q _ _ (e1.trans e2) (F1.mono e2) (.fz upd_same hd (r1.mono e2.tup))
theorem ev_intB {b : Bool} (h : EvD T po Hb gs env ta (.bool b)) : EvD T po Hb gs env (tCB (fun xs H Q => (∃ i, xs = [.int i] ∧ Q (.int i) H) ∨ ∃ k, xs = [.bl k] ∧ Q (.int (if k then 1 else 0)) H) (tCons ta tNil)) (.int (if b then 1 else 0)) := fun σ H F Q q => by
  refine h σ H F _ fun v H1 e1 F1 r1 => ?_
  obtain rfl := r1.b
  exact .inr ⟨b, rfl, q _ _ e1 F1 (.int _)⟩
theorem ev_isNL {xs : List PyData} (h : env[i]? = some (.l xs)) : EvD T po Hb gs env (tIsN (tVar i)) (.bool false) := fun σ H F Q q => by
  obtain ⟨a, vs, h1, _⟩ := F.lst h
  refine ⟨.ref a, h1, ?_⟩
  have e : decide (V.ref a = V.non) = false := decide_eq_false (fun z => nomatch z)
  show Q (.bl (decide (V.ref a = V.non))) H
  rw [e]
  exact q _ H (Ex.refl H) F (.bl _)
theorem et_is0 {n : Nat} (h : EvD T po Hb gs env te (dN n)) : EvT T po Hb gs env (tTest (tOp rEq te (tC (.int 0)))) (· = decide (n = 0)) := (et (ev_eqI h ev_i)).imp fun b e => by
  rw [e]
  by_cases z : n = 0
  · subst z; rfl
  · rw [decide_eq_false z, decide_eq_false (by omega)]
theorem ev_nextsN {E : XK} {th tr tp ts : TE} {h : House} {r : Route} {p : Nat} {s : List Con} (h1 : EvD T po Hb gs env th (encH h)) (h2 : EvD T po Hb gs env tr (encR r)) (h3 : EvD T po Hb gs env tp (dN p)) (h4 : EvD T po Hb gs env ts (encS s)) (ho : HouseOk h) (hro : RouteOk h r) (hp : p < r.length) (hs : SetOk h s) (hg : goC h r p s = none) :
    EvD T po Hb gs env (tCall (spNexts T) [] E (tCons th (tCons tr (tCons tp (tCons ts tNil))))) .none := fun σ H F Q q => by
  refine (ea_c h1 (ea_c h2 (ea_c h3 (ea_c h4 ea_nil)))) σ H F _ fun vs xs H1 e1 F1 r1 p1 => ?_
  subst p1
  rw [List.append_nil]
  exact ⟨h, r, p, s, r1.weak, ho, hro, hp, hs, fun H' e _ => q _ H' (e1.trans e.weak) (F1.mono e.weak) .non, fun a ws l H' e el => by rw [hg] at el; cases el⟩
theorem el_nexts {E : XK} {th tr tp ts : TE} {h : House} {r : Route} {p : Nat} {s : List Con} {l : List (Nat × List Con)} (h1 : EvD T po Hb gs env th (encH h)) (h2 : EvD T po Hb gs env tr (encR r)) (h3 : EvD T po Hb gs env tp (dN p)) (h4 : EvD T po Hb gs env ts (encS s)) (ho : HouseOk h) (hro : RouteOk h r) (hp : p < r.length) (hs : SetOk h s) (hg : goC h r p s = some l) :
    EvL T po Hb gs env (tCall (spNexts T) [] E (tCons th (tCons tr (tCons tp (tCons ts tNil))))) (· = l.map encPart) := fun σ H F Q q => by
  refine (ea_c h1 (ea_c h2 (ea_c h3 (ea_c h4 ea_nil)))) σ H F _ fun vs xs H1 e1 F1 r1 p1 => ?_
  subst p1
  rw [List.append_nil]
  refine ⟨h, r, p, s, r1.weak, ho, hro, hp, hs, fun H' e el => ?_, fun a ws l' H' e el n ha r => ?_⟩
  · rw [hg] at el
    cases el
  · rw [hg] at el
    cases el
    exact q a ws _ H' (e1.trans e.weak) (F1.mono e.weak) (e1.dom a n) ha r rfl
theorem ev_gtI (ha : Ev T po Hb gs env ta isI) (hb : Ev T po Hb gs env tb isI) : Ev T po Hb gs env (tOp (rI0 fun i j => .bl (decide (j < i))) ta tb) (fun d => ∃ b, d = .bool b ∧ True) := ev_I0X (r := fun i j => .bool (decide (j < i))) (fun _ _ _ => .bl _) ha hb fun _ _ ⟨i, e1⟩ ⟨j, e2⟩ => ⟨i, j, e1, e2, _, rfl, trivial⟩
/-- ways meet again behind t -/
theorem joinX {t : TS} (J : List AV → Prop) (h1 : ∀ env' σ' H', Fr T po Hb gs env' H' σ' → J env' → D.nx σ' H') (h2 : ∀ N : L2.St → Hp → Prop, (∀ env' σ' H', Fr T po Hb gs env' H' σ' → J env' → N σ' H') → t { D with nx := N } σ H) : t D σ H := h2 D.nx h1
end
section
variable {P : Program} {w : World} {K : PySem.W.Frag} {mg : Str → Option Value} {base : Heap} {T : List (Addr × Str)}
structure WArg where
  h : House
  r : Route
  p : Nat
  s : List Con
  rounds : Nat
  looks : Nat
/-- how often one may still go on -/
def mu (rounds len p : Nat) : Nat := rounds * len - p
theorem mu_next {rounds len p n : Nat} (hr : rounds ≠ 0) (hp : p < len) (hn : n = 0 ∨ p < n) : mu (rounds - (if n = 0 then 1 else 0)) len n + 1 ≤ mu rounds len p := by
  unfold mu
  obtain ⟨k, rfl⟩ : ∃ k, rounds = k + 1 := ⟨rounds - 1, by omega⟩
  rw [Nat.succ_mul]
  by_cases e : n = 0
  · subst e
    rw [if_pos rfl, show k + 1 - 1 = k from rfl]
    generalize k * len = z
    omega
  · rw [if_neg e, Nat.sub_zero, Nat.succ_mul]
    generalize k * len = z
    omega
def spWay (T : List (Addr × Str)) (n : Nat) : Sp := SpP T (α := WArg) (fun a => [.d (encH a.h), .d (encR a.r), .d (.tuple [dN a.p, encS a.s]), .d (dN a.rounds), .d (dN a.looks)])
  (fun a => HouseOk a.h ∧ RouteOk a.h a.r ∧ a.p < a.r.length ∧ SetOk a.h a.s ∧ mu a.rounds a.r.length a.p * 11 + a.looks + a.s.length + 1 ≤ n) (fun a d => ∃ w, d = encW w ∧ WayOk a.h a.r a.p a.s w ∧ w.dep ≤ n ∧ w.ons ≤ mu a.rounds a.r.length a.p)
theorem ok_way (B : Bi mg) {f : Addr} {fd : FuncData} (D : Df K mg "_law_way" s__law_way f fd ["_law_pen_here", "_law_house_here", "_law_route_here", "_law_stand", "_law_rounds", "_law_looks"]) (C1 : Cal P w K mg base "_law_draw" s__law_draw ["_law_pen_here", "_law_many"] 2 (spDraw T))
    (C2 : Cal P w K mg base "_law_nexts" s__law_nexts ["_law_house_here", "_law_route_here", "_law_place", "_law_some"] 3 (spNexts T)) (C3 : Cal P w K mg base "_law_parted" s__law_parted ["_law_house_here", "_law_some", "_law_cell"] 1 (spParted T)) : ∀ n, n ≤ 1000 →
    FnOk P w K mg base CX0 (4 + n) f fd ["_law_pen_here", "_law_house_here", "_law_route_here", "_law_stand", "_law_rounds", "_law_looks"] (spWay T n)
  | 0, _ => fn_none fun vs H Q E h => by
    obtain ⟨a, Pn, _, _, ⟨_, _, _, _, hd⟩, _⟩ := h
    omega
  | n + 1, hn => by
    have G_way := ok_way B D C1 C2 C3 n (by omega)
    have D_way := D
    obtain ⟨fa, fda, D_draw, G_draw⟩ := C1
    obtain ⟨fb, fdb, D_nexts, G_nexts⟩ := C2
    obtain ⟨fc, fdc, D_parted, G_parted⟩ := C3
    refine D.F.ok (k := 4 + n) sc__law_way (fun vs H Q E h => ?_) (fun cdv A outer s H vs Q E hr h => ?_)
    · obtain ⟨a, P, h1, _⟩ := h
      exact h1.len
    · obtain ⟨⟨h, r, p, ss, rounds, looks⟩, Pn, ⟨ho, hro, hp, hs, hmu⟩, F0, k⟩ := SpP.ent (N := ["_law_pen_here", "_law_house_here", "_law_route_here", "_law_stand", "_law_rounds", "_law_looks", "_law_place", "_law_some", "_law_later", "_law_cell", "_law_left", "_law_several", "_law_ways", "_law_value", "_law_part", "_law_one"]) h (fun _ => Nat.le_of_ble_eq_true rfl)
      dsimp only at *
      refine ⟨_, (pss_cons (ps_asg (pv 3) (pg_tup (by rfl) (pgs_cons (pg_name (i := 6) sc__law_way.nd rfl (Or.inl rfl)) (pgs_cons (pg_name (i := 7) sc__law_way.nd rfl (Or.inr rfl)) pgs_nil))))
      (pss_cons (ps_if (pt_cmpR op_eq (pv 4) pe_int (nomark _)) (pss_one (ps_ret (pe_tup (pa_cons pe_str pa_nil)))) pss_nil)
      (pss_cons (ps_set (i := 8) sc__law_way.nd rfl (Or.inl rfl) (pe_call G_nexts (hr.mono (by omega)) (by rfl) D_nexts.m D_nexts.F.kp D_nexts.b .nil pass0 (pa_cons (pv 1) (pa_cons (pv 2) (pa_cons (pv 6) (pa_cons (pv 7) pa_nil))))))
      (pss_cons (ps_par (i := 9) (j := 10) rfl sc__law_way.nd rfl rfl (by decide) rfl rfl (pa_cons (pe_call G_draw (hr.mono (by omega)) (by rfl) D_draw.m D_draw.F.kp D_draw.b .nil pass0 (pa_cons (pv 0) (pa_cons (pe_callB call_len_seq (by rfl) B.len PySem.boot_len (pa_cons (pe_ix ix_tup (pv 1) pe_int (fun _ _ => rfl)) pa_nil)) pa_nil))) (pa_cons (pv 5) pa_nil)) (by rfl))
      (pss_cons (ps_if (pt_cmp (pc_isN (pv 8)) rfl) (pss_cons (ps_setLc (i := 11) (own := [("_law_one", 15)]) (g := gName 15) rfl sc__law_way.nd rfl rfl (sw_true rfl rfl rfl (by decide +kernel)) (pi_range1 (by rfl) B.range (pa_cons (pe_callB call_len_seq (by rfl) B.len PySem.boot_len (pa_cons (pe_ix ix_tup (pv 1) pe_int (fun _ _ => rfl)) pa_nil)) pa_nil)) (blkOk_by (N := ["_law_pen_here", "_law_house_here", "_law_route_here", "_law_stand", "_law_rounds", "_law_looks", "_law_place", "_law_some", "_law_later", "_law_cell", "_law_left", "_law_several", "_law_ways", "_law_value", "_law_part", "_law_one"]) (sc := defScope s__law_way) (by decide +kernel)) (fun _ _ _ _ _ => (pg_name (i := 15) sc__law_way.nd rfl (Or.inl rfl))) (fun _ _ _ _ _ => (pts_one (pt_cmpR op_gt (pe_callB (lenS K) (by rfl) B.len PySem.boot_len (pa_cons (pe_call G_parted (hr.mono (by omega)) (by rfl) D_parted.m D_parted.F.kp D_parted.b .nil pass0 (pa_cons (pv 1) (pa_cons (pv 7) (pa_cons (pv 15) pa_nil)))) pa_nil)) pe_int (nomark _)))) (fun _ _ _ _ _ => (pv 15)))
      (pss_one (ps_set (i := 9) sc__law_way.nd rfl (Or.inl rfl) (pe_ix ix_list (pv 11) (pe_call G_draw (hr.mono (by omega)) (by rfl) D_draw.m D_draw.F.kp D_draw.b .nil pass0 (pa_cons (pv 0) (pa_cons (pe_callB call_len_seq (by rfl) B.len PySem.boot_len (pa_cons (pv 11) pa_nil)) pa_nil))) (fun _ _ => rfl))))) (pss_one (ps_if (PW.pt (pw_or (pt_cmpR op_eq (pv 5) pe_int (nomark _)) (pw_or1 (pt_cmpR op_gt (pe_call G_draw (hr.mono (by omega)) (by rfl) D_draw.m D_draw.F.kp D_draw.b .nil pass0 (pa_cons (pv 0) (pa_cons pe_int pa_nil))) pe_int (nomark _))))) (pss_cons (ps_setLc (i := 12) (own := [("_law_one", 15)]) (g := gName 15) rfl sc__law_way.nd rfl rfl (sw_true rfl rfl rfl (by decide +kernel)) (pi_list (pv 8)) (blkOk_by (N := ["_law_pen_here", "_law_house_here", "_law_route_here", "_law_stand", "_law_rounds", "_law_looks", "_law_place", "_law_some", "_law_later", "_law_cell", "_law_left", "_law_several", "_law_ways", "_law_value", "_law_part", "_law_one"]) (sc := defScope s__law_way) (by decide +kernel)) (fun _ _ _ _ _ => (pg_name (i := 15) sc__law_way.nd rfl (Or.inl rfl))) (fun _ _ _ _ _ => pts_nil) (fun _ _ _ _ _ => (pe_tup (pa_cons (pe_ix (ixT K) (pv 15) pe_int (fun _ _ => rfl)) (pa_cons (pe_call G_way (hr.mono (by omega)) (by rfl) D_way.m D_way.F.kp D_way.b .nil pass0 (pa_cons (pv 0) (pa_cons (pv 1) (pa_cons (pv 2) (pa_cons (pv 15) (pa_cons (pe_op op_sub (pv 4) (pe_callTy call_int1 (by rfl) B.int PyProof.Rows.boot_int (pa_cons (pe_cmpR op_eq (pe_ix (ixT K) (pv 15) pe_int (fun _ _ => rfl)) pe_int (nomark _)) pa_nil))) (pa_cons (pv 5) pa_nil))))))) pa_nil)))))
      (pss_one (ps_ret (pe_tup (pa_cons pe_str (pa_cons (pe_tupleOfF (by rfl) B.tuple (pv 12)) pa_nil)))))) (pss_one (ps_set (i := 10) sc__law_way.nd rfl (Or.inl rfl) (pe_op op_sub (pv 5) pe_int))))))
      (pss_cons (ps_set (i := 12) sc__law_way.nd rfl (Or.inl rfl) (pe_lst pa_nil))
      (pss_cons (ps_for PassesOwn.never rfl (pi_list (pe_call G_parted (hr.mono (by omega)) (by rfl) D_parted.m D_parted.F.kp D_parted.b .nil pass0 (pa_cons (pv 1) (pa_cons (pv 7) (pa_cons (pv 9) pa_nil))))) (pg_tup (by rfl) (pgs_cons (pg_name (i := 13) sc__law_way.nd rfl (Or.inl rfl)) (pgs_cons (pg_name (i := 14) sc__law_way.nd rfl (Or.inl rfl)) pgs_nil))) (pss_one (ps_expr (pe_bm PySem.F.plainAttrs_list PySem.F.slot_list_append PySem.F.type_list_append mt_append (pv 12) (pa_cons (pe_tup (pa_cons (pv 13) (pa_cons (pe_call G_way (hr.mono (by omega)) (by rfl) D_way.m D_way.F.kp D_way.b .nil pass0 (pa_cons (pv 0) (pa_cons (pv 1) (pa_cons (pv 2) (pa_cons (pe_tup (pa_cons (pv 6) (pa_cons (pv 14) pa_nil))) (pa_cons (pv 4) (pa_cons (pv 10) pa_nil))))))) pa_nil))) pa_nil)))))
      (pss_one (ps_ret (pe_tup (pa_cons pe_str (pa_cons (pv 9) (pa_cons (pe_tupleOfF (by rfl) B.tuple (pv 12)) pa_nil))))))))))))), ?_⟩
      have s1 := ho.s1
      have s3 := ho.s3
      have l8 := hs.g.le8 ho
      have hspos : 0 < ss.length := List.length_pos_iff.mpr hs.ne
      generalize hm : mu rounds r.length p = m at hmu k
      refine sq (st_set2 (x := dN p) (y := encS ss) F0 (ev_v rfl) fun v1 v2 H1 e1 F1 => ?_)
      dsimp only
      refine sq (st_if F1 (et_is0 (n := rounds) (ev_v rfl)) (fun H2 e2 F2 pb => ?_) (fun H2 e2 F2 pb => ?_))
      · exact st_ret F2 (ev_tup (eu_c ev_s eu_nil)).ev fun v d H3 e3 r3 p3 => k v d H3 e3 r3 ⟨.fin, by rw [p3, encW], .fin, by rw [Way.dep]; omega, by rw [Way.ons]; omega⟩
      dsimp only [tNext]
      have hr0 : rounds ≠ 0 := of_decide_eq_false pb.symm
      obtain ⟨⟨it, ns⟩, hrp⟩ : ∃ z, r[p]? = some z := ⟨r[p], List.getElem?_eq_getElem hp⟩
      have hit : ItemOk h it := hro.items _ (List.mem_of_getElem? hrp)
      have hns := hro.nexts p it ns hrp
      have egd : goC h r p ss = if blocked h ss it = true then none else some (ns.map fun n => (n, behindC h it ss)) := by unfold goC; rw [hrp]
      refine sq (joinX (T := T) (po := some Pn) (Hb := H) (gs := []) (fun env' => ∃ x8, env' = [.r (.ref Pn.p), .d (encH h), .d (encR r), .d (.tuple [dN p, encS ss]), .d (dN rounds), .d (dN looks), .d (dN p), .d (encS ss), x8, .u, .u, .u, .u, .u, .u, .u] ∧ (x8 = .d .none ∧ blocked h ss it = true ∨ x8 = .l ((ns.map fun nn => (nn, behindC h it ss)).map encPart) ∧ blocked h ss it = false)) (fun env' σ' H' F3 hJ => ?_) (fun N hN => ?_))
      rotate_left
      · cases hb : blocked h ss it with
        | true =>
          exact st_set F2 (ev_nextsN (ev_v rfl) (ev_v rfl) (ev_v rfl) (ev_v rfl) ho hro hp hs (by rw [egd, hb, if_pos rfl])).ev fun v8 d8 H3 e3 F3 p3 => by
            subst p3
            exact hN _ _ _ F3 ⟨_, rfl, .inl ⟨rfl, hb⟩⟩
        | false =>
          exact st_setL F2 (el_nexts (ev_v rfl) (ev_v rfl) (ev_v rfl) (ev_v rfl) ho hro hp hs (by rw [egd, hb, if_neg Bool.false_ne_true])) fun a8 ds8 H3 e3 F3 n3 p3 => by
            subst p3
            exact hN _ _ _ F3 ⟨_, rfl, .inr ⟨rfl, hb⟩⟩
      obtain ⟨x8, rfl, h8⟩ := hJ
      dsimp only
      refine sq (st_par (Pd := fun d => ∃ c, c < h.sizes.length ∧ d = dN c) (Pe := fun _ y => y = dN looks) F3 (ev_dr (n := h.sizes.length) rfl ((ev_lenT (ev_ix (ev_v rfl) ev_i rfl)).to (by rw [List.length_map])) s1 (by omega)) ((ev_v rfl).ev.imp fun d e _ _ => e) fun v9 v10 x9 x10 H4 e4 F4 ⟨c0, hc0, p9⟩ p10 => ?_)
      subst p9
      subst p10
      dsimp only
      refine sq (joinX (T := T) (po := some Pn) (Hb := H) (gs := []) (fun env' => ∃ c left x8 x11 x12 x15, env' = [.r (.ref Pn.p), .d (encH h), .d (encR r), .d (.tuple [dN p, encS ss]), .d (dN rounds), .d (dN looks), .d (dN p), .d (encS ss), x8, .d (dN c), .d (dN left), x11, x12, .u, .u, x15] ∧ c < h.sizes.length ∧ ∀ q ∈ partedC h ss c, m * 11 + left + q.2.length + 1 ≤ n) (fun env' σ' H' F5 hJ => ?_) (fun N hN => ?_))
      · obtain ⟨c, left, x8, x11, x12, x15, rfl, hc, hq⟩ := hJ
        have hz4 := ho.sz _ (List.mem_of_getElem? (at_sz hc 0))
        dsimp only
        refine sq (st_setL F5 (el_lst eu_nil (fun ds e => by rw [e]; decide)) fun a12 ds12 H6 e6 F6 n6 p6 => ?_)
        subst p6
        dsimp only
        refine sq (st_forL (Pl := fun l => l = (partedC h ss c).map encPart) (fun ds j env' σ' H' => ∃ (wl : List (Nat × Way)) (x8 x11 x13 x14 x15 : AV), Paired (fun q x => x.1 = q.1 ∧ WayOk h r p q.2 x.2 ∧ x.2.dep ≤ n ∧ x.2.ons ≤ m) ((partedC h ss c).take j) wl ∧ env' = [.r (.ref Pn.p), .d (encH h), .d (encR r), .d (.tuple [dN p, encS ss]), .d (dN rounds), .d (dN looks), .d (dN p), .d (encS ss), x8, .d (dN c), .d (dN left), x11, .l (wl.map encB), x13, x14, x15]) F6 (el_c (args := fun a : House × List Con × Nat => [.d (encH a.1), .d (encS a.2.1), .d (dN a.2.2)]) (h, ss, c) (ea_c (ev_v rfl) (ea_c (ev_v rfl) (ea_c (ev_v rfl) ea_nil))) ⟨ho, hs.g, hc⟩) (fun ds H7 e7 p7 => ⟨[], _, _, _, _, _, .nil, rfl⟩) (fun v0 ds j d v env' σ' H' p7 hd7 F' hI hv => ?_) (fun ds env' σ' H' p7 F' hI => ?_))
        · obtain ⟨wl, x8, x11, x13, x14, x15, hpw, rfl⟩ := hI
          subst p7
          rw [List.getElem?_map] at hd7
          obtain ⟨q, hqj, rfl⟩ := Option.map_eq_some_iff.mp hd7
          have hqm := List.mem_of_getElem? hqj
          obtain ⟨_, hq2, hq3⟩ := parted_mem hqm
          have hqo : SetOk h q.2 := by rw [hq2]; exact saw_ok hs.g (hq2 ▸ hq3)
          have hwl : wl.length ≤ 4 := by
            rw [← pair_len hpw, List.length_take]
            have := parted_len h ss c
            omega
          refine gN2 F' hv fun v3 v4 F7 => ?_
          refine st_app F7 (i := 12) rfl (by rw [List.length_map]; omega) (ev_tupX (eu_cons (ev_v rfl).ev (eu_cons (ev_p (args := fun a : WArg => [.d (encH a.h), .d (encR a.r), .d (.tuple [dN a.p, encS a.s]), .d (dN a.rounds), .d (dN a.looks)]) ⟨h, r, p, q.2, rounds, left⟩ (ea_r rfl (ea_c (ev_v rfl) (ea_c (ev_v rfl) (ea_c (ev_tup (eu_c (ev_v rfl) (eu_c (ev_v rfl) eu_nil))) (ea_c (ev_v rfl) (ea_c (ev_v rfl) ea_nil)))))) ⟨ho, hro, hp, hqo, by rw [hm]; exact hq q hqm⟩) eu_nil)) ?_) fun d5 H8 F8 tk ⟨ds, ed, d1, r1, q1, q2, d2, r2, q3, ⟨w, q4, hw1, hw2, hw3⟩, q5⟩ => ?_
          · rintro ds ⟨d1, r1, rfl, _, d2, r2, rfl, _, rfl⟩
            exact Nat.le_of_ble_eq_true rfl
          · subst q5 q4 q3 q2 q1 ed
            refine ⟨_, F8, wl ++ [(q.1, w)], _, _, _, _, _, ?_, by rw [List.map_append]; rfl⟩
            rw [take_snoc hqj]
            exact K22.Paired.snoc hpw ⟨rfl, hw1, hw2, hm ▸ hw3⟩
        · obtain ⟨wl, x8, x11, x13, x14, x15, hpw, rfl⟩ := hI
          subst p7
          rw [List.length_map, List.take_length] at hpw
          dsimp only
          refine st_ret F' (ev_tup (eu_c ev_s (eu_c (ev_v rfl) (eu_c (ev_tupleD (kvs := wl.map fun q => (dN q.1, encW q.2)) ((ek_l rfl).imp fun ds e => by rw [e, List.map_map]; rfl)) eu_nil)))).ev fun v d H8 e8 r8 p8 => k v d H8 e8 r8 ⟨.look c (Ways.of wl), by rw [p8, encW, encWs_of], .look hc (WaysOk.of (pair_map_l (pair_imp hpw fun x y h => ⟨h.1, h.2.1⟩))), ?_, ?_⟩
          · rw [Way.dep]
            refine Nat.succ_le_succ (Ways.dep_of fun x hx => ?_)
            obtain ⟨_, _, hr⟩ := paired_mem hpw x hx
            exact hr.2.2.1
          · rw [Way.ons]
            refine Ways.ons_of fun x hx => ?_
            obtain ⟨_, _, hr⟩ := paired_mem hpw x hx
            exact hr.2.2.2
      · rcases h8 with ⟨rfl, hb⟩ | ⟨rfl, hb⟩
        · obtain ⟨q, rfl⟩ : ∃ q, it = .ask q := by
            cases it with
            | ask q => exact ⟨q, rfl⟩
            | deed _ => cases hb
            | perhaps _ => cases hb
            | stir _ => cases hb
            | rest => cases hb
          have hvn : verdictC h q ss = none := Option.isNone_iff_eq_none.mp hb
          obtain ⟨x, hx, y, hy, hxy⟩ := blocked_diff hvn hs.ne
          obtain ⟨c1, hc1, hd1⟩ := con_diff (hs.all x hx) (hs.all y hy) hxy
          have h2 := parted_two hc1 hx hy (hs.all x hx) (hs.all y hy) hd1
          refine st_yes F4 (etB ((ev_isN (d := .none) (ev_v rfl)).to rfl)) fun H5 e5 F5 => ?_
          refine sq (st_setL F5 (el_compR (Pd := fun d => d = dN h.sizes.length) (fun d b => ∃ k : Nat, k < h.sizes.length ∧ d = dN k ∧ b = decide (1 < (partedC h ss k).length)) (fun d e => e = d) ((ev_lenT (ev_ix (ev_v rfl) ev_i rfl)).to (by rw [List.length_map])).ev (fun d e => ⟨_, e, by omega⟩) (fun n' k e hk => ?_) (fun n' k e hk _ => (ev_v rfl).ev)) fun a11 ds11 H6 e6 F6 n6 ⟨n', pn, hR⟩ => ?_)
          · have en : n' = h.sizes.length := by have := PyData.int.inj e; omega
            refine (et (ev_gt (Ev.one ((ev_lenK (el_c (args := fun a : House × List Con × Nat => [.d (encH a.1), .d (encS a.2.1), .d (dN a.2.2)]) (h, ss, k) (ea_c (ev_v rfl) (ea_c (ev_v rfl) (ea_c (ev_v rfl) ea_nil))) ⟨ho, hs.g, by rw [← en]; exact hk⟩).k).imp fun d ⟨ds, e1, e2⟩ => by rw [e2, e1, List.length_map])) ev_i)).imp fun b e => ⟨k, by omega, rfl, ?_⟩
            rw [e, decide_eq_decide]
            show (1 : Int) < ((partedC h ss k).length : Nat) ↔ 1 < (partedC h ss k).length
            omega
          · have en : n' = h.sizes.length := by have := PyData.int.inj pn; omega
            obtain ⟨cs, ec, hcs⟩ := enc_list (enc := dN) (Q := fun c => c < h.sizes.length ∧ 1 < (partedC h ss c).length) fun e he => by
              obtain ⟨d, _, ⟨k, hk, e1, e2⟩, e3⟩ := hR.mem e he
              exact ⟨k, ⟨hk, of_decide_eq_true e2.symm⟩, by rw [e3, e1]⟩
            subst ec
            have hne : 0 < cs.length := by
              obtain ⟨e, he, _⟩ := hR.has (d := dN c1) (List.mem_map.mpr ⟨c1, List.mem_range.mpr (by omega), rfl⟩) (fun b ⟨k, _, e1, e2⟩ => by
                have : k = c1 := by have := PyData.int.inj e1; omega
                rw [e2, this]
                exact decide_eq_true h2)
              have := List.length_pos_of_mem he
              rwa [List.length_map] at this
            have hcl : cs.length ≤ 3 := by
              have := hR.le
              rw [List.length_map, upto_len] at this
              omega
            refine st_set F6 (ev_ixKX (Pd := fun d => ∃ c ∈ cs, d = dN c) (ek_l rfl) (ev_dr (n := cs.length) rfl (Ev.one ((ev_lenK (ek_l rfl)).imp fun d ⟨ds, e1, e2⟩ => by rw [e2, e1, List.length_map])) hne (by omega)) fun ds y e ⟨r, hr, ey⟩ => ?_) fun v9 d9 H7 e7 F7 ⟨c, hc, p9⟩ => ?_
            · subst e
              exact ⟨r, dN cs[r], ey, at_N (List.getElem?_eq_getElem hr), _, List.getElem_mem hr, rfl⟩
            · subst p9
              obtain ⟨hc2, hc3⟩ := hcs c hc
              exact hN _ _ _ F7 ⟨c, looks, _, _, _, _, rfl, hc2, fun q hq => by have := parted_less hc3 hq; omega⟩
        · refine st_no F4 (etB (ev_isNL rfl)) fun H5 e5 F5 => ?_
          refine st_if F5 (Pb := fun b => b = false → looks ≠ 0) (et_or (Pa := fun b => b = decide (looks = 0)) (Pb := fun _ => True) (et_is0 (ev_v rfl)) (fun _ => (etX (ev_gtI ((ev_dr (n := 5) rfl ev_i (by decide)).imp fun d ⟨r, _, e⟩ => ⟨_, e⟩) ev_i.isI)).imp fun _ _ => trivial) (fun _ z => nomatch z) (fun p b _ _ => of_decide_eq_false p.symm)) (fun H6 e6 F6 _ => ?_) (fun H6 e6 F6 pb => ?_)
          · have hmr : ∀ nn ∈ ns, mu (rounds - (if nn = 0 then 1 else 0)) r.length nn + 1 ≤ m := fun nn hnn => by
              rw [← hm]
              exact mu_next hr0 hp (hns.2.2.2 nn hnn).2
            have hbo := beh_ok ho hit hs
            have hb8 := hbo.g.le8 ho
            refine sq (st_setL F6 (el_compK (Pl := fun l => l = (ns.map fun nn => (nn, behindC h it ss)).map encPart) (fun _ b => b = true) (fun d e => ∃ x, d = encPart x ∧ ∃ w, e = encB w ∧ (w.1 = x.1 ∧ WayOk h r x.1 x.2 w.2 ∧ w.2.dep ≤ n ∧ w.2.ons + 1 ≤ m)) (ek_l rfl) (fun ds e => by rw [e, List.length_map, List.length_map]; have := hns.2.1; omega) (fun _ _ _ _ => et_yes) (fun ds e d hd _ => ?_)) fun a12 out H7 e7 F7 n7 ⟨ds, pd, hR⟩ => ?_)
            · subst e
              obtain ⟨x, hx, rfl⟩ := List.mem_map.mp hd
              obtain ⟨nn, hnn, rfl⟩ := List.mem_map.mp hx
              have hmn := hmr nn hnn
              refine (ev_tupX (eu_cons (ev_ix (ds := [dN nn, encS (behindC h it ss)]) (ev_v rfl) ev_i rfl).ev (eu_cons (ev_p (args := fun a : WArg => [.d (encH a.h), .d (encR a.r), .d (.tuple [dN a.p, encS a.s]), .d (dN a.rounds), .d (dN a.looks)]) ⟨h, r, nn, behindC h it ss, rounds - (if nn = 0 then 1 else 0), looks⟩ (ea_r rfl (ea_c (ev_v rfl) (ea_c (ev_v rfl) (ea_c (ev_v rfl) (ea_c ((ev_sub (ev_v rfl) (ev_intB (ev_eqI (i := (nn : Int)) (ev_ix (ds := [dN nn, encS (behindC h it ss)]) (ev_v rfl) ev_i rfl) ev_i))).to (congrArg PyData.int ?_)) (ea_c (ev_v rfl) ea_nil)))))) ⟨ho, hro, (hns.2.2.2 nn hnn).1, hbo, by dsimp only; omega⟩) eu_nil)) ?_).imp fun d ⟨ds, ed, d1, r1, q1, q2, d2, r2, q3, ⟨w, q4, hw1, hw2, hw3⟩, q5⟩ => ⟨_, rfl, (nn, w), by subst q5 q4 q3 q2 q1; exact ed, rfl, hw1, hw2, by dsimp only at hw3 ⊢; omega⟩
              · by_cases e0 : nn = 0
                · subst e0
                  show (rounds : Int) - 1 = ((rounds - 1 : Nat) : Int)
                  omega
                · rw [if_neg (by simp only [decide_eq_true_eq]; omega)]
                  show (rounds : Int) - 0 = ((rounds - (if nn = 0 then 1 else 0) : Nat) : Int)
                  rw [if_neg e0]
                  omega
              · rintro ds ⟨d1, r1, rfl, _, d2, r2, rfl, _, rfl⟩
                exact Nat.le_of_ble_eq_true rfl
            · subst pd
              obtain ⟨wl, e1, hpw⟩ := ways_all hR.all
              subst e1
              dsimp only
              refine st_ret F7 (ev_tup (eu_c ev_s (eu_c (ev_tupleD (kvs := wl.map fun q => (dN q.1, encW q.2)) ((ek_l rfl).imp fun ds e => by rw [e, List.map_map]; rfl)) eu_nil))).ev fun v d H8 e8 r8 p8 => k v d H8 e8 r8 ⟨.on (Ways.of wl), by rw [p8, encW, encWs_of], .on (l := ns.map fun nn => (nn, behindC h it ss)) (by rw [egd, hb, if_neg Bool.false_ne_true]) (WaysOk.of (pair_map_l (pair_imp hpw fun x y h => ⟨h.1, h.2.1⟩))), ?_, ?_⟩
              · rw [Way.dep]
                refine Nat.succ_le_succ (Ways.dep_of fun x hx => ?_)
                obtain ⟨_, _, hr⟩ := paired_mem hpw x hx
                exact hr.2.2.1
              · rw [Way.ons]
                have hm1 : 1 ≤ m := by
                  cases hn0 : ns with
                  | nil => exact absurd hn0 hns.1
                  | cons a _ => have := hmr a (by rw [hn0]; exact List.mem_cons_self); omega
                have := Ways.ons_of (n := m - 1) (l := wl) fun x hx => by
                  obtain ⟨_, _, hr⟩ := paired_mem hpw x hx
                  have := hr.2.2.2
                  omega
                omega
          · have hl0 := pb rfl
            exact st_set F6 ((ev_sub (i := (looks : Int)) (ev_v rfl) ev_i).to (show PyData.int _ = dN (looks - 1) from congrArg PyData.int (by omega))).ev fun v10 d10 H7 e7 F7 p10 => by
              subst p10
              exact hN _ _ _ F7 ⟨c0, looks - 1, _, _, _, _, rfl, hc0, fun q hq => by have := parted_le hq; omega⟩
end
end K22
/-! LH: houses, routes, stands, rounds, ways drawn; sure at asks. -/
namespace K22
open PySem PySem.Spec L2 LamX
abbrev s__law_some_ways : Stmt := topS 48
theorem sc__law_some_ways : FnScope ["_law_pen_here", "_law_most", "_law_house_here", "_law_rounds", "_law_looks", "_law_kind", "_law_route_here", "_law_stand"] ["_law_pen_here", "_law_most"] (defScope s__law_some_ways) := ⟨rfl, rfl, rfl, by decide +kernel, rfl, by decide +kernel, by decide +kernel⟩
abbrev s__law_sure_at_asks : Stmt := topS 51
theorem sc__law_sure_at_asks : FnScope ["_law_house_here", "_law_some", "_law_history", "_law_items", "_law_item_here", "_law_left"] ["_law_house_here", "_law_some", "_law_history"] (defScope s__law_sure_at_asks) := ⟨rfl, rfl, rfl, by decide +kernel, rfl, by decide +kernel, by decide +kernel⟩
section
variable {T : List (Addr × Str)} {po : Option PenD} {Hb : Hp} {gs : List (V × AV)} {env : List AV} {H : Hp} {σ : L2.St} {K : PySem.W.Frag} {ta tb tc te : TE} {D : Ends} {i j k : Nat}
theorem st_par3 {Pd Pe Pf : PyData → Prop} (F : Fr T po Hb gs env H σ) (h1 : Ev T po Hb gs env ta Pd) (h2 : Ev T po Hb gs env tb Pe) (h3 : Ev T po Hb gs env tc Pf) (q : ∀ u v w x y z H', Fr T po Hb gs (((env.set i (.d x)).set j (.d y)).set k (.d z)) H' (((σ.set i (some u)).set j (some v)).set k (some w)) → Pd x → Pe y → Pf z → D.nx (((σ.set i (some u)).set j (some v)).set k (some w)) H') :
    tPar3 i j k (tCons ta (tCons tb (tCons tc tNil))) D σ H :=
  h1 σ H F _ fun u x H1 e1 F1 r1 p1 => h2 σ H1 F1 _ fun v y H2 e2 F2 r2 p2 => h3 σ H2 F2 _ fun w z H3 e3 F3 r3 p3 => ⟨u, v, w, rfl, q u v w x y z H3 (((F3.setD (r1.mono (e2.tup.trans e3.tup))).setD (r2.mono e3.tup)).setD r3) p1 p2 p3⟩
theorem ev_min2 {a b : Int} (h1 : EvD T po Hb gs env ta (.int a)) (h2 : EvD T po Hb gs env tb (.int b)) : EvD T po Hb gs env (tCB (fun xs H Q => ∃ i j, xs = [.int i, .int j] ∧ Q (.int (if j < i then j else i)) H) (tCons ta (tCons tb tNil))) (.int (if b < a then b else a)) := fun σ H F Q q => by
  refine h1 σ H F _ fun v H1 e1 F1 r1 => h2 σ H1 F1 _ fun w H2 e2 F2 r2 => ?_
  obtain rfl := r1.i
  obtain rfl := r2.i
  exact ⟨a, b, rfl, q _ H2 (e1.trans e2) F2 (.int _)⟩
end
section
variable {P : Program} {w : World} {K : PySem.W.Frag} {mg : Str → Option Value} {base : Heap} {T : List (Addr × Str)}
structure SArg where
  h : House
  r : Route
  p : Nat
  s : List Con
  rounds : Nat
  w : Way
def SArg.Ok (a : SArg) : Prop := HouseOk a.h ∧ RouteOk a.h a.r ∧ a.p < a.r.length ∧ SetOk a.h a.s ∧ WayOk a.h a.r a.p a.s a.w ∧ a.w.dep ≤ 60 ∧ a.w.ons ≤ 4
def spSome (T : List (Addr × Str)) : Sp := SpP T (α := Unit) (fun _ => [.d (dN 2)]) (fun _ => True) (fun _ d => ∃ a : SArg, a.Ok ∧ d = .tuple [encH a.h, encR a.r, .tuple [dN a.p, encS a.s], dN a.rounds, encW a.w])
theorem ok_some (B : Bi mg) {f : Addr} {fd : FuncData} (D : Df K mg "_law_some_ways" s__law_some_ways f fd ["_law_pen_here", "_law_most"]) (C1 : Cal P w K mg base "_law_draw" s__law_draw ["_law_pen_here", "_law_many"] 2 (spDraw T)) (C2 : Cal P w K mg base "_law_small_house" s__law_small_house ["_law_pen_here"] 10 (spHs T))
    (C3 : Cal P w K mg base "_law_three_house" s__law_three_house ["_law_pen_here"] 10 (spHs T)) (C4 : Cal P w K mg base "_law_unlike_house" s__law_unlike_house ["_law_pen_here"] 10 (spHs T)) (C5 : Cal P w K mg base "_law_house" s__law_house ["_law_pen_here", "_law_sizes", "_law_nodes", "_law_deeds"] 9 (spHouse T))
    (C6 : Cal P w K mg base "_law_route" s__law_route ["_law_pen_here", "_law_house_here", "_law_most"] 4 (spRoute T)) (C7 : Cal P w K mg base "_law_set" s__law_set ["_law_pen_here", "_law_house_here"] 3 (spSet T))
    (C8 : Cal P w K mg base "_law_way" s__law_way ["_law_pen_here", "_law_house_here", "_law_route_here", "_law_stand", "_law_rounds", "_law_looks"] 64 (spWay T 60)) :
    Cal P w K mg base "_law_some_ways" s__law_some_ways ["_law_pen_here", "_law_most"] 65 (spSome T) := by
  obtain ⟨fa, fda, D_draw, G_draw⟩ := C1
  obtain ⟨fb, fdb, D_small_house, G_small_house⟩ := C2
  obtain ⟨fc, fdc, D_three_house, G_three_house⟩ := C3
  obtain ⟨fe, fde, D_unlike_house, G_unlike_house⟩ := C4
  obtain ⟨fg, fdg, D_house, G_house⟩ := C5
  obtain ⟨fh, fdh, D_route, G_route⟩ := C6
  obtain ⟨fi, fdi, D_set, G_set⟩ := C7
  obtain ⟨fj, fdj, D_way, G_way⟩ := C8
  refine ⟨f, fd, D, D.F.ok sc__law_some_ways (fun vs H Q E h => ?_) (fun cdv A outer s H vs Q E hr h => ?_)⟩
  · obtain ⟨a, P, h1, _⟩ := h
    exact h1.len
  · obtain ⟨_, Pn, _, F0, k⟩ := SpP.ent (N := ["_law_pen_here", "_law_most", "_law_house_here", "_law_rounds", "_law_looks", "_law_kind", "_law_route_here", "_law_stand"]) h (fun _ => Nat.le_of_ble_eq_true rfl)
    refine ⟨_, (pss_cons (ps_par3 (i := 2) (j := 3) (l := 4) rfl sc__law_some_ways.nd rfl rfl rfl (by decide) (by decide) (by decide) rfl rfl rfl (pa_cons (pe_call G_small_house (hr.mono (by omega)) (by rfl) D_small_house.m D_small_house.F.kp D_small_house.b .nil pass0 (pa_cons (pv 0) pa_nil)) (pa_cons (pe_call G_draw (hr.mono (by omega)) (by rfl) D_draw.m D_draw.F.kp D_draw.b .nil pass0 (pa_cons (pv 0) (pa_cons pe_int pa_nil))) (pa_cons (pe_op op_add pe_int (pe_call G_draw (hr.mono (by omega)) (by rfl) D_draw.m D_draw.F.kp D_draw.b .nil pass0 (pa_cons (pv 0) (pa_cons pe_int pa_nil)))) pa_nil))) (by rfl))
      (pss_cons (ps_set (i := 5) sc__law_some_ways.nd rfl (Or.inl rfl) (pe_call G_draw (hr.mono (by omega)) (by rfl) D_draw.m D_draw.F.kp D_draw.b .nil pass0 (pa_cons (pv 0) (pa_cons pe_int pa_nil))))
      (pss_cons (ps_if (pt_cmpR op_lt (pv 5) pe_int (nomark _)) (pss_cons (ps_set (i := 2) sc__law_some_ways.nd rfl (Or.inl rfl) (pe_ifExp (pt_cmpR op_eq (pv 5) pe_int (nomark _)) (pe_call G_three_house (hr.mono (by omega)) (by rfl) D_three_house.m D_three_house.F.kp D_three_house.b .nil pass0 (pa_cons (pv 0) pa_nil)) (pe_call G_unlike_house (hr.mono (by omega)) (by rfl) D_unlike_house.m D_unlike_house.F.kp D_unlike_house.b .nil pass0 (pa_cons (pv 0) pa_nil))))
      (pss_one (ps_par3 (i := 3) (j := 4) (l := 1) rfl sc__law_some_ways.nd rfl rfl rfl (by decide) (by decide) (by decide) rfl rfl rfl (pa_cons (pe_callB (call_min2 rfl) (by rfl) B.min (by decide +kernel) (pa_cons (pv 3) (pa_cons pe_int pa_nil))) (pa_cons pe_int (pa_cons pe_int pa_nil))) (by rfl)))) pss_nil)
      (pss_cons (ps_if (PW.pt (pw_and (pt_cmpR op_eq (pv 5) pe_int (nomark _)) (pw_and1 (pt_cmpR op_gt (pv 1) pe_int (nomark _))))) (pss_one (ps_asg (pe_tup (pa_cons (pe_call G_house (hr.mono (by omega)) (by rfl) D_house.m D_house.F.kp D_house.b .nil pass0 (pa_cons (pv 0) (pa_cons (pe_tup (pa_cons pe_int pa_nil)) (pa_cons pe_int (pa_cons pe_int pa_nil))))) (pa_cons (pe_callB (call_min2 rfl) (by rfl) B.min (by decide +kernel) (pa_cons (pv 3) (pa_cons pe_int pa_nil))) (pa_cons pe_int (pa_cons pe_int pa_nil))))) (pg_tup (by rfl) (pgs_cons (pg_name (i := 2) sc__law_some_ways.nd rfl (Or.inl rfl)) (pgs_cons (pg_name (i := 3) sc__law_some_ways.nd rfl (Or.inl rfl)) (pgs_cons (pg_name (i := 4) sc__law_some_ways.nd rfl (Or.inl rfl)) (pgs_cons (pg_name (i := 1) sc__law_some_ways.nd rfl (Or.inl rfl)) pgs_nil))))))) pss_nil)
      (pss_cons (ps_set (i := 6) sc__law_some_ways.nd rfl (Or.inl rfl) (pe_call G_route (hr.mono (by omega)) (by rfl) D_route.m D_route.F.kp D_route.b .nil pass0 (pa_cons (pv 0) (pa_cons (pv 2) (pa_cons (pv 1) pa_nil)))))
      (pss_cons (ps_set (i := 7) sc__law_some_ways.nd rfl (Or.inl rfl) (pe_tup (pa_cons (pe_call G_draw (hr.mono (by omega)) (by rfl) D_draw.m D_draw.F.kp D_draw.b .nil pass0 (pa_cons (pv 0) (pa_cons (pe_callB call_len_seq (by rfl) B.len PySem.boot_len (pa_cons (pv 6) pa_nil)) pa_nil))) (pa_cons (pe_call G_set (hr.mono (by omega)) (by rfl) D_set.m D_set.F.kp D_set.b .nil pass0 (pa_cons (pv 0) (pa_cons (pv 2) pa_nil))) pa_nil))))
      (pss_one (ps_ret (pe_tup (pa_cons (pv 2) (pa_cons (pv 6) (pa_cons (pv 7) (pa_cons (pv 3) (pa_cons (pe_call G_way (hr.mono (by omega)) (by rfl) D_way.m D_way.F.kp D_way.b .nil pass0 (pa_cons (pv 0) (pa_cons (pv 2) (pa_cons (pv 6) (pa_cons (pv 7) (pa_cons (pv 3) (pa_cons (pv 4) pa_nil))))))) pa_nil)))))))))))))), ?_⟩
    refine sq (st_par3 (Pd := HouseS) (Pe := fun d => ∃ r : Nat, r < 3 ∧ d = dN r) (Pf := fun d => ∃ r : Nat, r ≤ 2 ∧ d = dN r) F0 (ev_hs rfl) (ev_dr (n := 3) rfl ev_i (by decide)) ((ev_addP (R := fun z => z = 1) (S := fun z => 0 ≤ z ∧ z < 2) (U := fun z => 0 ≤ z ∧ z ≤ 2) (ev_i.ip rfl) ((ev_dr (n := 2) rfl ev_i (by decide)).imp fun d ⟨r, hr, e⟩ => (⟨r, e, by omega, by omega⟩ : IntP (fun z => 0 ≤ z ∧ z < 2) d)) (fun i j h1 h2 => by omega)).imp fun d ⟨z, e, h1, h2⟩ => ⟨z.toNat, by omega, by rw [e]; congr 1; omega⟩) fun v2 v3 v4 x2 x3 x4 H1 F1 ⟨h0, ho0, p2⟩ ⟨rd0, hrd0, p3⟩ ⟨lk0, hlk0, p4⟩ => ?_)
    subst p2
    subst p3
    subst p4
    dsimp only
    refine sq (st_set F1 (ev_dr (n := 6) rfl ev_i (by decide)) fun v5 d5 H2 e2 F2 ⟨kd, hkd, p5⟩ => ?_)
    subst p5
    dsimp only
    have hI : ∀ {gs : List (V × AV)} {env : List AV}, env[5]? = some (.d (dN kd)) → Ev T (some Pn) H gs env (tVar 5) isI := fun h => (ev_v (x := dN kd) h).isI
    refine sq (joinX (T := T) (po := some Pn) (Hb := H) (gs := []) (fun env' => ∃ h rounds looks, HouseOk h ∧ rounds ≤ 2 ∧ looks ≤ 2 ∧ env' = [.r (.ref Pn.p), .d (dN 2), .d (encH h), .d (dN rounds), .d (dN looks), .d (dN kd), .u, .u]) (fun env' σ' H' F3 hJ => ?_) (fun N hN => ?_))
    rotate_left
    · refine st_if F2 (Pb := fun _ => True) ((et (ev_lt (ev_v (x := dN kd) rfl) ev_i)).imp fun _ _ => trivial) (fun H3 e3 F3 _ => ?_) fun H3 e3 F3 _ => ?_
      · refine sq (st_set F3 (Pd := HouseS) (ev_if (Pb := fun _ => True) ((et (ev_eqI (ev_v (x := dN kd) rfl) ev_i)).imp fun _ _ => trivial) (fun _ => ev_hs rfl) (fun _ => ev_hs rfl)) fun v2 d2 H4 e4 F4 ⟨h1, ho1, p2⟩ => ?_)
        subst p2
        dsimp only
        refine st_par3 (Pd := fun d => ∃ r : Nat, r ≤ 2 ∧ d = dN r) (Pe := fun d => d = dN 1) (Pf := fun d => d = dN 2) F4 ((ev_min2 (ev_v (x := dN rd0) rfl) ev_i).ev.imp fun d e => ?_) ev_i.ev ev_i.ev fun v3 v4 v1 x3 x4 x1 H5 F5 ⟨rd, hrd, p3⟩ p4 p1 => ?_
        · by_cases hlt : (1 : Int) < (rd0 : Int)
          · exact ⟨1, by omega, by rw [e, if_pos hlt]; rfl⟩
          · exact ⟨rd0, by omega, by rw [e, if_neg hlt]⟩
        · subst p3
          subst p4
          subst p1
          exact hN _ _ _ F5 ⟨h1, rd, 1, ho1, hrd, by omega, rfl⟩
      · exact hN _ _ _ F3 ⟨h0, rd0, lk0, ho0, by omega, hlk0, rfl⟩
    obtain ⟨h, rounds, looks, ho, hrd, hlk, rfl⟩ := hJ
    dsimp only
    refine sq (st_no F3 (et_and (Pa := fun _ => True) (Pb := fun b => b = false) ((et (ev_eqI (ev_v (x := dN kd) rfl) ev_i)).imp fun _ _ => trivial) (fun _ => (et (ev_gt (i := 2) (ev_v rfl) ev_i)).imp fun b e => by rw [e]; exact decide_eq_false (by decide)) (fun _ => rfl) (fun _ b e => e)) fun H4 e4 F4 => ?_)
    dsimp only [tNext]
    refine sq (st_set F4 (ev_p (args := fun a : House × Nat => [.d (encH a.1), .d (dN a.2)]) (h, 2) (ea_r rfl (ea_c (ev_v rfl) (ea_c (ev_v rfl) ea_nil))) ⟨ho, Nat.le_succ 1, Nat.le_refl 2⟩) fun v6 d6 H5 e5 F5 ⟨r, hro, p6⟩ => ?_)
    subst p6
    dsimp only at hro ⊢
    have hr1 := hro.ne
    have hr2 := hro.most
    refine sq (st_set F5 (Pd := fun d => ∃ p s, p < r.length ∧ SetOk h s ∧ d = .tuple [dN p, encS s]) ((ev_tupX (eu_cons (ev_dr (n := r.length) rfl ((ev_lenT (ev_v rfl)).to (by rw [List.length_map])) hr1 (by omega)) (eu_cons (ev_p (args := fun a : House => [.d (encH a)]) h (ea_r rfl (ea_c (ev_v rfl) ea_nil)) ho) eu_nil)) ?_).imp fun d ⟨ds, ed, d1, r1, q1, ⟨p, hp, q2⟩, d2, r2, q3, ⟨s, hs, q4⟩, q5⟩ => ⟨p, s, hp, hs, by subst q5 q4 q3 q2 q1; exact ed⟩) fun v7 d7 H6 e6 F6 ⟨p, s, hp, hs, p7⟩ => ?_)
    · rintro ds ⟨d1, r1, rfl, _, d2, r2, rfl, _, rfl⟩
      exact Nat.le_of_ble_eq_true rfl
    subst p7
    dsimp only
    have hmu : mu rounds r.length p ≤ 4 := by
      unfold mu
      have : rounds * r.length ≤ 2 * 2 := Nat.mul_le_mul hrd hr2
      omega
    have hs8 := hs.g.le8 ho
    refine st_ret F6 (ev_tupX (eu_cons (ev_v rfl).ev (eu_cons (ev_v rfl).ev (eu_cons (ev_v rfl).ev (eu_cons (ev_v rfl).ev (eu_cons (ev_p (args := fun a : WArg => [.d (encH a.h), .d (encR a.r), .d (.tuple [dN a.p, encS a.s]), .d (dN a.rounds), .d (dN a.looks)]) ⟨h, r, p, s, rounds, looks⟩ (ea_r rfl (ea_c (ev_v rfl) (ea_c (ev_v rfl) (ea_c (ev_v rfl) (ea_c (ev_v rfl) (ea_c (ev_v rfl) ea_nil)))))) ⟨ho, hro, hp, hs, by dsimp only; omega⟩) eu_nil))))) ?_) fun v d H7 e7 r7 ⟨ds, ed, d1, r1, q1, q2, d2, r2, q3, q4, d3, r3, q5, q6, d4, r4, q7, q8, d5, r5, q9, ⟨w, q10, hw1, hw2, hw3⟩, q11⟩ => ?_
    · rintro ds ⟨d1, r1, rfl, _, d2, r2, rfl, _, d3, r3, rfl, _, d4, r4, rfl, _, d5, r5, rfl, _, rfl⟩
      exact Nat.le_of_ble_eq_true rfl
    · subst q11 q10 q9 q8 q7 q6 q5 q4 q3 q2 q1
      exact k v d H7 e7 r7 ⟨⟨h, r, p, s, rounds, w⟩, ⟨ho, hro, hp, hs, hw1, hw2, Nat.le_trans hw3 hmu⟩, ed⟩
/-! ### sure at asks -/
/-- what is known of an event, for known_after -/
def unT : TEv → Option UE
  | .deed k => some (.item (.deed k))
  | .perhaps k _ => some (.item (.perhaps k))
  | .stir c _ => some (.item (.stir c))
  | .ask _ _ => none
  | .rest => none
  | .saw c v => some (.saw c v)
  | .to _ => none
def itemsOf (ts : List TEv) : List UE := ts.filterMap unT
def isIt : TEv → Bool
  | .deed _ => true
  | .perhaps _ _ => true
  | .stir _ _ => true
  | _ => false
def isAsk : TEv → Bool
  | .ask _ _ => true
  | _ => false
def TOk (h : House) : TEv → Prop
  | .deed k => k < h.deeds.length
  | .perhaps k _ => k < h.deeds.length
  | .stir c _ => c < h.sizes.length
  | .ask q _ => q < h.qs.length
  | .rest => True
  | .saw c _ => c < h.sizes.length
  | .to _ => True
theorem unT_ok {h : House} {t : TEv} {u : UE} (ht : TOk h t) (e : unT t = some u) : UEOk h u := by
  cases t <;> first | (cases e; exact ht) | cases e
theorem items_ok {h : House} {ts : List TEv} (ht : ∀ t ∈ ts, TOk h t) : ∀ u ∈ itemsOf ts, UEOk h u := fun u hu => by
  obtain ⟨t, h1, h2⟩ := List.mem_filterMap.mp hu
  exact unT_ok (ht t h1) h2
abbrev itW : List Str := ["deed", "perhaps", "stir"]
theorem te_words (t : TEv) : ∃ wd rest, encTE t = .tuple (.str wd :: rest) ∧ decide (wd = "saw") = isSaw t ∧ decide (wd = "ask") = isAsk t ∧ inV (.str wd) (itW.map V.str) = isIt t := by
  cases t with
  | deed k => exact ⟨"deed", [dN k], rfl, (show decide ((Str.ofString "deed") = Str.ofString "saw") = false by decide +kernel), (show decide ((Str.ofString "deed") = Str.ofString "ask") = false by decide +kernel), (show inV (.str (Str.ofString "deed")) (itW.map V.str) = true by decide +kernel)⟩
  | perhaps k b => exact ⟨"perhaps", [dN k, dN b], rfl, (show decide ((Str.ofString "perhaps") = Str.ofString "saw") = false by decide +kernel), (show decide ((Str.ofString "perhaps") = Str.ofString "ask") = false by decide +kernel), (show inV (.str (Str.ofString "perhaps")) (itW.map V.str) = true by decide +kernel)⟩
  | stir c v => exact ⟨"stir", [dN c, dN v], rfl, (show decide ((Str.ofString "stir") = Str.ofString "saw") = false by decide +kernel), (show decide ((Str.ofString "stir") = Str.ofString "ask") = false by decide +kernel), (show inV (.str (Str.ofString "stir")) (itW.map V.str) = true by decide +kernel)⟩
  | ask q a => exact ⟨"ask", [dN q, dN a], rfl, (show decide ((Str.ofString "ask") = Str.ofString "saw") = false by decide +kernel), (show decide ((Str.ofString "ask") = Str.ofString "ask") = true by decide +kernel), (show inV (.str (Str.ofString "ask")) (itW.map V.str) = false by decide +kernel)⟩
  | rest => exact ⟨"rest", [], rfl, (show decide ((Str.ofString "rest") = Str.ofString "saw") = false by decide +kernel), (show decide ((Str.ofString "rest") = Str.ofString "ask") = false by decide +kernel), (show inV (.str (Str.ofString "rest")) (itW.map V.str) = false by decide +kernel)⟩
  | saw c v => exact ⟨"saw", [dN c, dN v], rfl, (show decide ((Str.ofString "saw") = Str.ofString "saw") = true by decide +kernel), (show decide ((Str.ofString "saw") = Str.ofString "ask") = false by decide +kernel), (show inV (.str (Str.ofString "saw")) (itW.map V.str) = false by decide +kernel)⟩
  | to p => exact ⟨"to", [dN p], rfl, (show decide ((Str.ofString "to") = Str.ofString "saw") = false by decide +kernel), (show decide ((Str.ofString "to") = Str.ofString "ask") = false by decide +kernel), (show inV (.str (Str.ofString "to")) (itW.map V.str) = false by decide +kernel)⟩
theorem te_kind (t : TEv) : (isIt t = true ∧ isSaw t = false ∧ ∃ ds u, encTE t = .tuple ds ∧ .tuple (ds.take 2) = encUE u ∧ unT t = some u) ∨ (isIt t = false ∧ isSaw t = true ∧ ∃ u, encTE t = encUE u ∧ unT t = some u) ∨ (isIt t = false ∧ isSaw t = false ∧ unT t = none) := by
  cases t with
  | deed k => exact .inl ⟨rfl, rfl, _, _, rfl, rfl, rfl⟩
  | perhaps k b => exact .inl ⟨rfl, rfl, _, _, rfl, rfl, rfl⟩
  | stir c v => exact .inl ⟨rfl, rfl, _, _, rfl, rfl, rfl⟩
  | ask q a => exact .inr (.inr ⟨rfl, rfl, rfl⟩)
  | rest => exact .inr (.inr ⟨rfl, rfl, rfl⟩)
  | saw c v => exact .inr (.inl ⟨rfl, rfl, _, rfl, rfl⟩)
  | to p => exact .inr (.inr ⟨rfl, rfl, rfl⟩)
theorem DtA.strs {H : Hp} : ∀ {vs : List V} {ns : List Str}, DtA H vs (ns.map PyData.str) → vs = ns.map V.str
  | _, [], .nil => rfl
  | _, n :: r, h => by
    rw [List.map_cons] at h
    cases h with
    | cons h1 h2 => rw [Dt.s h1, DtA.strs h2, List.map_cons]
theorem flat_strs : ∀ us : List Str, (us.map V.str).all flatV = true
  | [] => rfl
  | u :: r => by
    rw [List.map_cons, List.all_cons, flat_strs r]
    rfl
theorem ev_inStr {po : Option PenD} {Hb : Hp} {gs : List (V × AV)} {env : List AV} {ta tb : TE} {u : Str} {us : List Str} (h1 : EvD T po Hb gs env ta (.str u)) (h2 : EvD T po Hb gs env tb (.tuple (us.map PyData.str))) : EvD T po Hb gs env (tOp (rIn K false) ta tb) (.bool (inV (.str u) (us.map V.str))) := fun σ H F Q q => by
  refine h1 σ H F _ fun v H1 e1 F1 r1 => h2 σ H1 F1 _ fun w H2 e2 F2 r2 => ?_
  obtain rfl := r1.s
  obtain ⟨a, xs, rfl, h3, h4⟩ := r2.t
  have e := h4.strs
  subst e
  exact ⟨a, _, rfl, .inr (SqT.of h3), rfl, flat_strs us, q _ H2 (e1.trans e2) F2 (.bl _)⟩
structure AArg where
  h : House
  s : List Con
  ts : List TEv
/-- at each ask the set that is left has the answer told -/
def AArg.Ok (a : AArg) : Prop := HouseOk a.h ∧ SetG a.h a.s ∧ a.ts.length ≤ 1000 ∧ (∀ t ∈ a.ts, TOk a.h t) ∧ ∀ n q b, a.ts[n]? = some (.ask q b) → SetOk a.h (knownU a.h (itemsOf (a.ts.take n)) a.s) ∧ verdictC a.h q (knownU a.h (itemsOf (a.ts.take n)) a.s) = some b
def spAsks (T : List (Addr × Str)) : Sp := SpD T (α := AArg) (fun a => [.d (encH a.h), .d (encS a.s), .d (encHist a.ts)]) AArg.Ok (fun _ d => d = .bool true)
theorem items_take {ts : List TEv} {n : Nat} {t : TEv} (h : ts[n]? = some t) : itemsOf (ts.take (n + 1)) = itemsOf (ts.take n) ++ (unT t).toList := by
  unfold itemsOf
  rw [take_snoc h, List.filterMap_append]
  cases e : unT t with
  | none => rw [List.filterMap_cons, e]; rfl
  | some u => rw [List.filterMap_cons, e]; rfl
theorem ok_asks {f : Addr} {fd : FuncData} (D : Df K mg "_law_sure_at_asks" s__law_sure_at_asks f fd ["_law_house_here", "_law_some", "_law_history"]) (C1 : Cal P w K mg base "known_after" s_known_after ["house", "some", "items"] 11 (spKnown T)) (C2 : Cal P w K mg base "verdict" s_verdict ["house", "question", "some"] 2 (spVerdict T)) :
    Cal P w K mg base "_law_sure_at_asks" s__law_sure_at_asks ["_law_house_here", "_law_some", "_law_history"] 12 (spAsks T) := by
  obtain ⟨fa, fda, D_known_after, G_known_after⟩ := C1
  obtain ⟨fb, fdb, D_verdict, G_verdict⟩ := C2
  refine ⟨f, fd, D, D.F.ok sc__law_sure_at_asks (fun vs H Q E h => ?_) (fun cdv A outer s H vs Q E hr h => ?_)⟩
  · obtain ⟨a, h1, _⟩ := h
    exact h1.len
  · obtain ⟨⟨h, ss, ts⟩, ⟨ho, hg, hl, ht, hsure⟩, F0, k⟩ := SpD.ent (N := ["_law_house_here", "_law_some", "_law_history", "_law_items", "_law_item_here", "_law_left"]) h (fun _ => Nat.le_of_ble_eq_true rfl)
    dsimp only at *
    refine ⟨_, (pss_cons (ps_set (i := 3) sc__law_sure_at_asks.nd rfl (Or.inl rfl) (pe_tup pa_nil))
      (pss_cons (ps_for PassesOwn.never rfl (pi_tup (pv 2)) (pg_name (i := 4) sc__law_sure_at_asks.nd rfl (Or.inl rfl)) (pss_cons (ps_set (i := 5) sc__law_sure_at_asks.nd rfl (Or.inl rfl) (pe_call G_known_after (hr.mono (by omega)) (by rfl) D_known_after.m D_known_after.F.kp D_known_after.b .nil pass0 (pa_cons (pv 0) (pa_cons (pv 1) (pa_cons (pv 3) pa_nil)))))
      (pss_cons (ps_if (PW.pt (pw_and (pt_cmpR op_eq (pe_ix ix_tup (pv 4) pe_int (fun _ _ => rfl)) pe_str (nomark _)) (pw_and1 (pt_cmpR op_ne (pe_call G_verdict (hr.mono (by omega)) (by rfl) D_verdict.m D_verdict.F.kp D_verdict.b .nil pass0 (pa_cons (pv 0) (pa_cons (pe_ix ix_tup (pv 4) pe_int (fun _ _ => rfl)) (pa_cons (pv 5) pa_nil)))) (pe_ix ix_tup (pv 4) pe_int (fun _ _ => rfl)) (nomark _))))) (pss_one (ps_ret pe_bl)) pss_nil)
      (pss_cons (ps_if (pt_cmpR op_in_seq (pe_ix ix_tup (pv 4) pe_int (fun _ _ => rfl)) (pe_tup (pa_cons pe_str (pa_cons pe_str (pa_cons pe_str pa_nil)))) rfl) (pss_one (ps_set (i := 3) sc__law_sure_at_asks.nd rfl (Or.inl rfl) (pe_op op_catA (pv 3) (pe_tup (pa_cons (pe_slice sl_tupA (pv 4) po_none (po_some pe_int)) pa_nil))))) pss_nil)
      (pss_one (ps_if (pt_cmpR op_eq (pe_ix ix_tup (pv 4) pe_int (fun _ _ => rfl)) pe_str (nomark _)) (pss_one (ps_set (i := 3) sc__law_sure_at_asks.nd rfl (Or.inl rfl) (pe_op op_catA (pv 3) (pe_tup (pa_cons (pv 4) pa_nil))))) pss_nil))))))
      (pss_one (ps_ret pe_bl)))), ?_⟩
    refine sq (st_set F0 (ev_tup eu_nil).ev fun v3 d3 H1 e1 F1 p3 => ?_)
    subst p3
    dsimp only
    refine sq (st_forT (ds := ts.map encTE) (fun n env' σ' H' => ∃ x4 x5, env' = [.d (encH h), .d (encS ss), .d (encHist ts), .d (encUEs (itemsOf (ts.take n))), x4, x5]) F1 (ev_v rfl) (fun H2 e2 => ⟨_, _, rfl⟩) (fun v0 n d v env' σ' H' hd F' hI hv => ?_) (fun env' σ' H' F' hI => ?_))
    · obtain ⟨x4, x5, rfl⟩ := hI
      rw [List.getElem?_map] at hd
      obtain ⟨t, htn, rfl⟩ := Option.map_eq_some_iff.mp hd
      have hn : n < ts.length := (List.getElem?_eq_some_iff.mp htn).1
      have hit := items_take htn
      have hil : (itemsOf (ts.take n)).length ≤ 1000 := by
        have := List.length_filterMap_le unT (ts.take n)
        rw [List.length_take] at this
        show (List.filterMap unT (ts.take n)).length ≤ 1000
        omega
      obtain ⟨wd, rest, hw, hsaw, hask, hin⟩ := te_words t
      refine gN F' hv fun F2 => ?_
      refine sq (st_set F2 (ev_c (args := fun a : House × List Con × List UE => [.d (encH a.1), .d (encS a.2.1), .d (encUEs a.2.2)]) (h, ss, itemsOf (ts.take n)) (ea_c (ev_v rfl) (ea_c (ev_v rfl) (ea_c (ev_v rfl) ea_nil))) ⟨ho, hg, items_ok fun t ht' => ht t (List.mem_of_mem_take ht')⟩) fun v5 d5 H3 e3 F3 p5 => ?_)
      subst p5
      dsimp only
      have word : ∀ {gs : List (V × AV)} {env : List AV}, env[4]? = some (.d (encTE t)) → EvD T none H gs env (tOp (rIxT K) (tVar 4) (tC (.int 0))) (.str wd) := fun h => ev_ix (ds := .str wd :: rest) ((ev_v h).to hw) ev_i (atI_nat (j := 0) rfl)
      refine sq (st_no F3 (et_and (Pa := fun b => b = isAsk t) (Pb := fun b => b = false) ((et (ev_eqStr (word rfl) ev_s)).imp fun b e => e.trans hask) (fun pa => ?_) (fun _ => rfl) (fun _ b e => e)) fun H4 e4 F4 => ?_)
      · cases t with
        | ask q b =>
          obtain ⟨hs1, hs2⟩ := hsure n q b htn
          refine (et (ev_neI (i := (b : Int)) (j := (b : Int)) ((ev_verdict (q := q) (s := knownU h (itemsOf (ts.take n)) ss) (ev_v rfl) (ev_ix (ds := [.str "ask", dN q, dN b]) (ev_v rfl) ev_i rfl) (ev_v rfl) ho (ht _ (List.mem_of_getElem? htn)) hs1).to (by rw [hs2]; rfl)) (ev_ix (ds := [.str "ask", dN q, dN b]) (ev_v rfl) ev_i rfl))).imp fun b e => by rw [e]; simp
        | deed k => cases pa
        | perhaps k b => cases pa
        | stir c v => cases pa
        | rest => cases pa
        | saw c v => cases pa
        | to p => cases pa
      dsimp only [tNext]
      have t2 : ∀ {gs : List (V × AV)} {env : List AV}, env[4]? = some (.d (encTE t)) → EvT T none H gs env (tTest (tOp (rIn K false) (tOp (rIxT K) (tVar 4) (tC (.int 0))) (tTup (tCons (tC (.str "deed")) (tCons (tC (.str "perhaps")) (tCons (tC (.str "stir")) tNil)))))) (· = isIt t) := fun h => (et (ev_inStr (us := itW) (word h) (ev_tup (eu_c ev_s (eu_c ev_s (eu_c ev_s eu_nil)))))).imp fun b e => e.trans hin
      have t3 : ∀ {gs : List (V × AV)} {env : List AV}, env[4]? = some (.d (encTE t)) → EvT T none H gs env (tTest (tOp rEq (tOp (rIxT K) (tVar 4) (tC (.int 0))) (tC (.str "saw")))) (· = isSaw t) := fun h => (et (ev_eqStr (word h) ev_s)).imp fun b e => e.trans hsaw
      have grow : ∀ u, unT t = some u → AV.d (.tuple ((itemsOf (ts.take n)).map encUE ++ [encUE u])) = .d (encUEs (itemsOf (ts.take (n + 1)))) := fun u hu => by
        rw [hit, hu]
        show _ = AV.d (.tuple ((itemsOf (ts.take n) ++ [u]).map encUE))
        rw [List.map_append]
        rfl
      rcases te_kind t with ⟨k1, k2, ds, u, k3, k4, k5⟩ | ⟨k1, k2, u, k3, k4⟩ | ⟨k1, k2, k3⟩
      · refine sq (st_yes F4 ((t2 rfl).imp fun b e => e.trans k1) fun H5 e5 F5 => ?_)
        refine st_set F5 (ev_cat (xs := (itemsOf (ts.take n)).map encUE) (ys := [encUE u]) (ev_v rfl) (ev_tup (eu_c ((ev_slT (ds := ds) ((ev_v rfl).to k3) eo_none (eo_some (ev_i (i := (2 : Nat))))).to (by rw [cut_top]; exact k4)) eu_nil)) (by rw [List.length_map]; show _ + 1 ≤ _; omega)).ev fun v3 d3 H6 e6 F6 p3 => ?_
        subst p3
        dsimp only [tNext]
        rw [grow u k5] at F6
        refine st_no F6 ((t3 rfl).imp fun b e => e.trans k2) fun H7 e7 F7 => ?_
        exact ⟨_, F7, _, _, rfl⟩
      · refine sq (st_no F4 ((t2 rfl).imp fun b e => e.trans k1) fun H5 e5 F5 => ?_)
        dsimp only [tNext]
        refine st_yes F5 ((t3 rfl).imp fun b e => e.trans k2) fun H6 e6 F6 => ?_
        refine st_set F6 (ev_cat (xs := (itemsOf (ts.take n)).map encUE) (ys := [encUE u]) (ev_v rfl) (ev_tup (eu_c ((ev_v rfl).to k3) eu_nil)) (by rw [List.length_map]; show _ + 1 ≤ _; omega)).ev fun v3 d3 H7 e7 F7 p3 => ?_
        subst p3
        rw [grow u k4] at F7
        exact ⟨_, F7, _, _, rfl⟩
      · refine sq (st_no F4 ((t2 rfl).imp fun b e => e.trans k1) fun H5 e5 F5 => ?_)
        dsimp only [tNext]
        refine st_no F5 ((t3 rfl).imp fun b e => e.trans k2) fun H6 e6 F6 => ?_
        have e : itemsOf (ts.take n) = itemsOf (ts.take (n + 1)) := by rw [hit, k3]; simp
        rw [e] at F6
        exact ⟨_, F6, _, _, rfl⟩
    · obtain ⟨x4, x5, rfl⟩ := hI
      dsimp only
      exact st_ret F' (ev_b (b := true)).ev k
end
end K22
/-! LK: the plain law: what is lived is what may be paid, and at each ask the set is sure. -/
namespace K22
open PySem L2
theorem told_paid {h : House} {x y : Con} {it : Item} {t : TEv} (cs : List Nat) (r : List TEv) (hm : (y, t) ∈ toldU h x (.item it)) : paidT cs (t :: r) = paidT cs r := by
  cases it with
  | deed k => cases List.mem_singleton.mp hm; rfl
  | perhaps k =>
    rcases List.mem_cons.mp hm with e | hm
    · cases e; rfl
    · cases List.mem_singleton.mp hm; rfl
  | stir c =>
    obtain ⟨v, _, e⟩ := List.mem_map.mp hm
    cases e
    rfl
  | ask q => cases List.mem_singleton.mp hm; rfl
  | rest => cases List.mem_singleton.mp hm; rfl
theorem path_inv {h : House} {x z : Con} {u : UE} {us : List UE} {ts : List TEv} (hp : PathU h x (u :: us) ts z) : ∃ y t ts', ts = t :: ts' ∧ (y, t) ∈ toldU h x u ∧ PathU h y us ts' z := by
  cases hp with
  | cons h1 h2 => exact ⟨_, _, _, rfl, h1, h2⟩
theorem livedLook_mem {h : House} {r : Route} {p c : Nat} {x : Con} {ts : List TEv} : ∀ {ws : Ways}, ts ∈ livedLook h r p x c ws → ∃ w, (x.getD c 0, w) ∈ ws.list ∧ ∃ l ∈ livedW h r p x w, ts = .saw c (x.getD c 0) :: l
  | .nil, hm => by rw [livedLook] at hm; cases hm
  | .cons v w ws, hm => by
    rw [livedLook] at hm
    rw [Ways.list]
    split at hm
    · rename_i e
      subst e
      obtain ⟨l, hl, rfl⟩ := List.mem_map.mp hm
      exact ⟨w, List.mem_cons_self, l, hl, rfl⟩
    · obtain ⟨w', h1, h2⟩ := livedLook_mem hm
      exact ⟨w', List.mem_cons_of_mem _ h1, h2⟩
theorem livedOn_mem {h : House} {r : Route} {p : Nat} {x : Con} {ws : Ways} {ts : List TEv} (hm : ts ∈ livedW h r p x (.on ws)) : ∃ y t, (y, t) ∈ toldU h x (.item (itemAt r p)) ∧ ∃ q ∈ ws.list, ∃ l ∈ livedW h r q.1 y q.2, ts = t :: .to q.1 :: l := by
  rw [livedW] at hm
  obtain ⟨b, hb, hm⟩ := List.mem_flatMap.mp hm
  rw [livedOn_flat] at hm
  obtain ⟨q, hq, hm⟩ := List.mem_flatMap.mp hm
  obtain ⟨l, hl, rfl⟩ := List.mem_map.mp hm
  exact ⟨b.1, b.2, hb, q, hq, l, hl, rfl⟩
theorem evsLook_mem {r : Route} {cs : List Nat} {p c : Nat} {ws : Ways} {e : Nat × List UE} (he : e ∈ evsOf r cs p (.look c ws)) : ∃ q ∈ ws.list, ∃ e' ∈ evsOf r cs p q.2, e = (e'.1 + cs.getD c 0, .saw c q.1 :: e'.2) := by
  rw [evsOf, evsLook_flat] at he
  obtain ⟨l, hl, he⟩ := List.mem_flatten.mp he
  obtain ⟨q, hq, rfl⟩ := List.mem_map.mp hl
  obtain ⟨e', he', rfl⟩ := List.mem_map.mp he
  exact ⟨q, hq, e', he', rfl⟩
theorem evsOn_mem {r : Route} {cs : List Nat} {p : Nat} {ws : Ways} {e : Nat × List UE} (he : e ∈ evsOf r cs p (.on ws)) : ∃ q ∈ ws.list, ∃ e' ∈ evsOf r cs q.1 q.2, e = (e'.1, .item (itemAt r p) :: .to q.1 :: e'.2) := by
  rw [evsOf, evsOn_flat] at he
  obtain ⟨l, hl, he⟩ := List.mem_flatten.mp he
  obtain ⟨q, hq, rfl⟩ := List.mem_map.mp hl
  obtain ⟨e', he', rfl⟩ := List.mem_map.mp he
  exact ⟨q, hq, e', he', rfl⟩
theorem look_evs {r : Route} {cs : List Nat} {p c : Nat} {ws : Ways} {q : Nat × Way} (hq : q ∈ ws.list) {e' : Nat × List UE} (he : e' ∈ evsOf r cs p q.2) : (e'.1 + cs.getD c 0, UE.saw c q.1 :: e'.2) ∈ evsOf r cs p (.look c ws) := by
  rw [evsOf, evsLook_flat]
  exact List.mem_flatten.mpr ⟨_, List.mem_map.mpr ⟨q, hq, rfl⟩, List.mem_map.mpr ⟨e', he, rfl⟩⟩
theorem on_evs {r : Route} {cs : List Nat} {p : Nat} {ws : Ways} {q : Nat × Way} (hq : q ∈ ws.list) {e' : Nat × List UE} (he : e' ∈ evsOf r cs q.1 q.2) : (e'.1, UE.item (itemAt r p) :: UE.to q.1 :: e'.2) ∈ evsOf r cs p (.on ws) := by
  rw [evsOf, evsOn_flat]
  exact List.mem_flatten.mpr ⟨_, List.mem_map.mpr ⟨q, hq, rfl⟩, List.mem_map.mpr ⟨e', he, rfl⟩⟩
/-- what is lived along a branch is lived, and pays what the branch costs -/
theorem path_lived {h : House} {r : Route} (ho : HouseOk h) (hro : RouteOk h r) (cs : List Nat) : ∀ (n : Nat) (w : Way) (p : Nat) (s : List Con), w.dep ≤ n → WayOk h r p s w → SetOk h s → ∀ e ∈ evsOf r cs p w, ∀ x ∈ s, ∀ ts y, PathU h x e.2 ts y → ts ∈ livedW h r p x w ∧ paidT cs ts = e.1
  | 0, w, p, s, hd, _, _, _, _, _, _, _, _, _ => by
    have := dep_pos w
    omega
  | n + 1, .fin, p, s, hd, hw, hs, e, he, x, hx, ts, y, hp => by
    rw [evsOf] at he
    rw [List.mem_singleton.mp he] at hp ⊢
    cases hp with
    | nil =>
      rw [livedW]
      exact ⟨List.mem_singleton.mpr rfl, rfl⟩
  | n + 1, .look c ws, p, s, hd, hw, hs, e, he, x, hx, ts, y, hp => by
    obtain ⟨hc, hn, h1, h2⟩ := way_look hw
    rw [Way.dep] at hd
    obtain ⟨q, hq, e', he', rfl⟩ := evsLook_mem he
    obtain ⟨y1, t, ts', rfl, hm, hp'⟩ := path_inv hp
    by_cases e0 : x.getD c 0 = q.1
    · have hm : (y1, t) ∈ (if x.getD c 0 = q.1 then [(x, TEv.saw c q.1)] else []) := hm
      rw [if_pos e0] at hm
      cases List.mem_singleton.mp hm
      obtain ⟨h3, h4⟩ := h1 q hq
      obtain ⟨h5, h6⟩ := path_lived ho hro cs n q.2 p _ (Nat.le_trans (Ways.dep_le hq) (by omega)) h4 (saw_ok hs.g h3) e' he' x (List.mem_filter.mpr ⟨hx, decide_eq_true e0⟩) ts' y hp'
      refine ⟨?_, ?_⟩
      · rw [livedW, livedLook_at hn (w := q.2) (by rw [e0]; exact hq)]
        exact List.mem_map.mpr ⟨ts', h5, by rw [e0]⟩
      · show cs.getD c 0 + paidT cs ts' = e'.1 + cs.getD c 0
        omega
    · have hm : (y1, t) ∈ (if x.getD c 0 = q.1 then [(x, TEv.saw c q.1)] else []) := hm
      rw [if_neg e0] at hm
      cases hm
  | n + 1, .on ws, p, s, hd, hw, hs, e, he, x, hx, ts, y, hp => by
    obtain ⟨it, ns, hrp, hb, hl, h1⟩ := way_on hw
    have hit : ItemOk h it := hro.items _ (List.mem_of_getElem? hrp)
    rw [Way.dep] at hd
    obtain ⟨q, hq, e', he', rfl⟩ := evsOn_mem he
    obtain ⟨y1, t, ts', rfl, hm, hp'⟩ := path_inv hp
    obtain ⟨y2, t2, ts2, rfl, hm2, hp2⟩ := path_inv hp'
    cases List.mem_singleton.mp hm2
    rw [item_at hrp] at hm
    obtain ⟨h3, h4⟩ := h1 q hq
    obtain ⟨h5, h6⟩ := path_lived ho hro cs n q.2 q.1 _ (Nat.le_trans (Ways.dep_le hq) (by omega)) h4 (beh_ok ho hit hs) e' he' y1 (told_beh ho hit hs.all hx hm) ts2 y hp2
    refine ⟨?_, ?_⟩
    · rw [livedW, item_at hrp]
      refine List.mem_flatMap.mpr ⟨(y1, t), hm, ?_⟩
      rw [livedOn_flat]
      exact List.mem_flatMap.mpr ⟨q, hq, List.mem_map.mpr ⟨ts2, h5, rfl⟩⟩
    · rw [told_paid cs _ hm]
      exact h6
/-- all that is lived is a branch's -/
theorem lived_ev {h : House} {r : Route} (cs : List Nat) : ∀ (n : Nat) (w : Way) (p : Nat) (x : Con), w.dep ≤ n → ∀ ts ∈ livedW h r p x w, ∃ e ∈ evsOf r cs p w, e.1 = paidT cs ts
  | 0, w, p, x, hd, _, _ => by
    have := dep_pos w
    omega
  | n + 1, .fin, p, x, hd, ts, ht => by
    rw [livedW] at ht
    rw [List.mem_singleton.mp ht, evsOf]
    exact ⟨_, List.mem_singleton.mpr rfl, rfl⟩
  | n + 1, .look c ws, p, x, hd, ts, ht => by
    rw [Way.dep] at hd
    rw [livedW] at ht
    obtain ⟨w', hw', l, hl, rfl⟩ := livedLook_mem ht
    obtain ⟨e, he, e1⟩ := lived_ev cs n w' p x (Nat.le_trans (Ways.dep_le hw') (by omega)) l hl
    refine ⟨_, look_evs hw' he, ?_⟩
    show e.1 + cs.getD c 0 = cs.getD c 0 + paidT cs l
    omega
  | n + 1, .on ws, p, x, hd, ts, ht => by
    rw [Way.dep] at hd
    obtain ⟨y, t, hm, q, hq, l, hl, rfl⟩ := livedOn_mem ht
    obtain ⟨e, he, e1⟩ := lived_ev cs n q.2 q.1 y (Nat.le_trans (Ways.dep_le hq) (by omega)) l hl
    refine ⟨_, on_evs hq he, ?_⟩
    rw [told_paid cs _ hm]
    exact e1
/-! ### what is lived is well told, and sure at asks -/
theorem told_tok {h : House} {x y : Con} {it : Item} {t : TEv} (hi : ItemOk h it) (hm : (y, t) ∈ toldU h x (.item it)) : TOk h t := by
  cases it with
  | deed k => cases List.mem_singleton.mp hm; exact hi
  | perhaps k =>
    rcases List.mem_cons.mp hm with e | hm
    · cases e; exact hi
    · cases List.mem_singleton.mp hm; exact hi
  | stir c =>
    obtain ⟨v, _, e⟩ := List.mem_map.mp hm
    cases e
    exact hi
  | ask q => cases List.mem_singleton.mp hm; exact hi
  | rest => cases List.mem_singleton.mp hm; trivial
theorem told_known {h : House} {x y : Con} {it : Item} {t : TEv} (s : List Con) (hm : (y, t) ∈ toldU h x (.item it)) : knownU h (unT t).toList s = behindC h it s := by
  cases it with
  | deed k => cases List.mem_singleton.mp hm; rfl
  | perhaps k =>
    rcases List.mem_cons.mp hm with e | hm
    · cases e; rfl
    · cases List.mem_singleton.mp hm; rfl
  | stir c =>
    obtain ⟨v, _, e⟩ := List.mem_map.mp hm
    cases e
    rfl
  | ask q => cases List.mem_singleton.mp hm; rfl
  | rest => cases List.mem_singleton.mp hm; rfl
theorem verdict_ans {h : House} {s : List Con} {q a : Nat} (hv : verdictC h q s = some a) {x : Con} (hx : x ∈ s) : ansC h q x = a := by
  cases s with
  | nil => cases hx
  | cons y r =>
    have hv : (if r.all (fun z => decide (ansC h q z = ansC h q y)) = true then some (ansC h q y) else none) = some a := hv
    split at hv
    · rename_i hall
      rw [← Option.some.inj hv]
      rcases List.mem_cons.mp hx with rfl | hx
      · rfl
      · exact of_decide_eq_true (List.all_eq_true.mp hall x hx)
    · cases hv
theorem told_ask {h : House} {x y : Con} {it : Item} {s : List Con} {q b : Nat} (hb : blocked h s it = false) (hx : x ∈ s) (hm : (y, TEv.ask q b) ∈ toldU h x (.item it)) : verdictC h q s = some b := by
  cases it with
  | deed k => cases List.mem_singleton.mp hm
  | perhaps k =>
    rcases List.mem_cons.mp hm with e | hm
    · cases e
    · cases List.mem_singleton.mp hm
  | stir c =>
    obtain ⟨v, _, e⟩ := List.mem_map.mp hm
    cases e
  | ask q' =>
    cases List.mem_singleton.mp hm
    have hb : (verdictC h q s).isNone = false := hb
    cases e : verdictC h q s with
    | none => rw [e] at hb; cases hb
    | some a => rw [verdict_ans e hx]
  | rest => cases List.mem_singleton.mp hm
/-- sure at asks, from a set on -/
def Sure (h : House) (s : List Con) (ts : List TEv) : Prop := ∀ n q b, ts[n]? = some (.ask q b) → SetOk h (knownU h (itemsOf (ts.take n)) s) ∧ verdictC h q (knownU h (itemsOf (ts.take n)) s) = some b
theorem known_app {h : House} {us vs : List UE} {s : List Con} : knownU h (us ++ vs) s = knownU h vs (knownU h us s) := by
  unfold knownU
  rw [List.foldl_append]
theorem items_cons (t : TEv) (ts : List TEv) : itemsOf (t :: ts) = (unT t).toList ++ itemsOf ts := by
  unfold itemsOf
  cases e : unT t with
  | none => rw [List.filterMap_cons, e]; rfl
  | some u => rw [List.filterMap_cons, e]; rfl
theorem sure_cons {h : House} {s : List Con} {t : TEv} {ts : List TEv} (h0 : ∀ q b, t = .ask q b → SetOk h s ∧ verdictC h q s = some b) (h1 : Sure h (knownU h (unT t).toList s) ts) : Sure h s (t :: ts)
  | 0, q, b, e => by
    have e : t = .ask q b := Option.some.inj e
    exact h0 q b e
  | n + 1, q, b, e => by
    have e : ts[n]? = some (.ask q b) := e
    rw [List.take_succ_cons, items_cons, known_app]
    exact h1 n q b e
theorem lived_ok {h : House} {r : Route} (ho : HouseOk h) (hro : RouteOk h r) : ∀ (n : Nat) (w : Way) (p : Nat) (s : List Con), w.dep ≤ n → WayOk h r p s w → SetOk h s → ∀ x ∈ s, ∀ ts ∈ livedW h r p x w, (∀ t ∈ ts, TOk h t) ∧ Sure h s ts
  | 0, w, p, s, hd, _, _, _, _, _, _ => by
    have := dep_pos w
    omega
  | n + 1, .fin, p, s, hd, hw, hs, x, hx, ts, ht => by
    rw [livedW] at ht
    rw [List.mem_singleton.mp ht]
    exact ⟨fun _ z => (nomatch z), fun n q b e => by simp at e⟩
  | n + 1, .look c ws, p, s, hd, hw, hs, x, hx, ts, ht => by
    obtain ⟨hc, hn, h1, h2⟩ := way_look hw
    rw [Way.dep] at hd
    rw [livedW] at ht
    obtain ⟨w', hw', l, hl, rfl⟩ := livedLook_mem ht
    obtain ⟨h3, h4⟩ := h1 _ hw'
    obtain ⟨h5, h6⟩ := lived_ok ho hro n w' p _ (Nat.le_trans (Ways.dep_le hw') (by omega)) h4 (saw_ok hs.g h3) x (List.mem_filter.mpr ⟨hx, by simp⟩) l hl
    refine ⟨fun t ht => ?_, sure_cons (fun q b e => nomatch e) h6⟩
    rcases List.mem_cons.mp ht with rfl | ht
    · exact hc
    · exact h5 t ht
  | n + 1, .on ws, p, s, hd, hw, hs, x, hx, ts, ht => by
    obtain ⟨it, ns, hrp, hb, hl, h1⟩ := way_on hw
    have hit : ItemOk h it := hro.items _ (List.mem_of_getElem? hrp)
    rw [Way.dep] at hd
    obtain ⟨y, t, hm, q, hq, l, hl, rfl⟩ := livedOn_mem ht
    rw [item_at hrp] at hm
    obtain ⟨h3, h4⟩ := h1 q hq
    obtain ⟨h5, h6⟩ := lived_ok ho hro n q.2 q.1 _ (Nat.le_trans (Ways.dep_le hq) (by omega)) h4 (beh_ok ho hit hs) y (told_beh ho hit hs.all hx hm) l hl
    refine ⟨fun t' ht => ?_, sure_cons (fun q' b e => ?_) ?_⟩
    · rcases List.mem_cons.mp ht with rfl | ht
      · exact told_tok hit hm
      · rcases List.mem_cons.mp ht with rfl | ht
        · trivial
        · exact h5 t' ht
    · subst e
      exact ⟨hs, told_ask hb hx hm⟩
    · rw [told_known s hm]
      exact sure_cons (fun q' b e => nomatch e) h6
end K22
/-! LM: the table of all histories; dicts that stand, told by data. -/
namespace K22
open PySem PySem.Spec L2 LamX
/-! ### data that are keys -/
mutual
def keyed : PyData → Bool
  | .int _ => true
  | .str _ => true
  | .tuple ds => keyedA ds
  | _ => false
def keyedA : List PyData → Bool
  | [] => true
  | d :: r => keyed d && keyedA r
end
mutual
theorem kd_nk : ∀ d : PyData, keyed d = true → kd (nk d) = d
  | .int i, _ => rfl
  | .str x, _ => rfl
  | .tuple ds, h => by
    rw [keyed] at h
    rw [nk, kd, kds_nks ds h]
  | .none, h => by rw [keyed] at h <;> first | cases h | (intros; simp)
  | .bool _, h => by rw [keyed] at h <;> first | cases h | (intros; simp)
  | .list _, h => by rw [keyed] at h <;> first | cases h | (intros; simp)
  | .dict _, h => by rw [keyed] at h <;> first | cases h | (intros; simp)
theorem kds_nks : ∀ ds : List PyData, keyedA ds = true → kds (nks ds) = ds
  | [], _ => rfl
  | d :: r, h => by
    rw [keyedA, Bool.and_eq_true] at h
    rw [nks, kds, kd_nk d h.1, kds_nks r h.2]
end
theorem keyed_all {α : Type} {f : α → PyData} : ∀ {l : List α}, (∀ x ∈ l, keyed (f x) = true) → keyedA (l.map f) = true
  | [], _ => by rw [List.map_nil, keyedA]
  | x :: l, h => by rw [List.map_cons, keyedA, h x List.mem_cons_self, keyed_all fun y hy => h y (List.mem_cons_of_mem _ hy)]; rfl
theorem dep_all {α : Type} {f : α → PyData} {n : Nat} : ∀ {l : List α}, (∀ x ∈ l, (nk (f x)).depth ≤ n) → NestedKey.depthAll (nks (l.map f)) ≤ n
  | [], _ => Nat.zero_le _
  | x :: l, h => by
    rw [List.map_cons, nks]
    show max (nk (f x)).depth (NestedKey.depthAll (nks (l.map f))) ≤ n
    exact Nat.max_le.mpr ⟨h x List.mem_cons_self, dep_all fun y hy => h y (List.mem_cons_of_mem _ hy)⟩
theorem dep_tup {ds : List PyData} {n : Nat} (h : NestedKey.depthAll (nks ds) ≤ n) : (nk (.tuple ds)).depth ≤ n + 1 := by
  rw [nk]
  exact Nat.succ_le_succ h
theorem keyed_C (x : Con) : keyed (encC x) = true := by
  show keyed (.tuple (x.map dN)) = true
  rw [keyed]
  exact keyed_all fun n _ => by rw [keyed]
theorem keyed_T (t : TEv) : keyed (encTE t) = true := by cases t <;> rfl
theorem keyed_H (ts : List TEv) : keyed (encHist ts) = true := by
  show keyed (.tuple (ts.map encTE)) = true
  rw [keyed]
  exact keyed_all fun t _ => keyed_T t
/-- the key of a content and a history -/
abbrev hD (q : Con × List TEv) : PyData := .tuple [encC q.1, encHist q.2]
def hK (q : Con × List TEv) : NestedKey := nk (hD q)
theorem kd_hK (q : Con × List TEv) : kd (hK q) = hD q := kd_nk _ (by
  rw [keyed, keyedA, keyedA, keyedA, keyed_C, keyed_H]
  rfl)
theorem dep_T (t : TEv) : (nk (encTE t)).depth ≤ 1 := by cases t <;> exact Nat.le_of_ble_eq_true rfl
theorem dep_C (x : Con) : (nk (encC x)).depth ≤ 2 := by
  rw [nk_encC, dep_cK]
  exact Nat.le_succ 1
theorem dep_hK (q : Con × List TEv) : (hK q).depth ≤ 8 := by
  refine Nat.le_trans (dep_tup (n := 2) ?_) (by decide)
  rw [nks, nks, nks]
  show max (nk (encC q.1)).depth (max (nk (encHist q.2)).depth 0) ≤ 2
  refine Nat.max_le.mpr ⟨dep_C _, Nat.max_le.mpr ⟨?_, Nat.zero_le _⟩⟩
  exact dep_tup (n := 1) (dep_all fun t _ => dep_T t)
theorem hD_inj {q r : Con × List TEv} (h : hD q = hD r) : q = r := by
  obtain ⟨h1, h2⟩ := List.cons.inj (PyData.tuple.inj h)
  obtain ⟨h3, _⟩ := List.cons.inj h2
  exact Prod.ext (encC_inj h1) (encHist_inj h3)
theorem hK_inj {q r : Con × List TEv} (h : hK q = hK r) : q = r := hD_inj (by rw [← kd_hK, ← kd_hK, h])
/-! ### the table -/
theorem valN_app {k : NestedKey} : ∀ {t u : NT}, valN (t ++ u) k = (valN t k).or (valN u k)
  | [], u => by rw [valN_nil]; rfl
  | p :: t, u => by
    rw [List.cons_append, valN_cons, valN_cons, valN_app (t := t)]
    split
    · rfl
    · rfl
theorem valN_setN {t : NT} {k j : NestedKey} {d : PyData} : valN (setN t k d) j = if k = j then some d else valN t j := by
  unfold setN
  by_cases h : (valN t k).isSome = true
  · rw [if_pos h]
    induction t with
    | nil => cases h
    | cons p t ih =>
      rw [List.map_cons]
      by_cases e : p.1 = k
      · rw [if_pos e, valN_cons, valN_cons]
        dsimp only
        rw [e]
        by_cases e2 : k = j
        · rw [if_pos e2, if_pos e2]
        · rw [if_neg e2, if_neg e2, if_neg e2]
          by_cases h2 : (valN t k).isSome = true
          · rw [ih h2, if_neg e2]
          · have same : ∀ {t : NT}, ¬ (valN t k).isSome = true → t.map (fun p => if p.1 = k then (p.1, d) else p) = t := by
              intro t
              induction t with
              | nil => exact fun _ => rfl
              | cons q t ih2 =>
                intro hn
                rw [valN_cons] at hn
                by_cases e3 : q.1 = k
                · rw [if_pos e3] at hn
                  exact absurd rfl hn
                · rw [if_neg e3] at hn
                  rw [List.map_cons, if_neg e3, ih2 hn]
            rw [same h2]
      · rw [valN_cons, if_neg e] at h
        rw [if_neg e, valN_cons, valN_cons, ih h]
        by_cases e2 : k = j
        · rw [if_pos e2, if_pos e2, if_neg (fun z => e (z.trans e2.symm))]
        · rw [if_neg e2, if_neg e2]
  · rw [if_neg h, valN_app, valN_cons, valN_nil]
    have hn : valN t k = none := by
      cases e : valN t k with
      | none => rfl
      | some _ => rw [e] at h; exact absurd rfl h
    by_cases e2 : k = j
    · subst e2
      rw [hn, if_pos rfl]
      rfl
    · rw [if_neg e2, if_neg e2]
      cases valN t j <;> rfl
theorem setN_mem {t : NT} {k : NestedKey} {d : PyData} {p : NestedKey × PyData} (h : p ∈ setN t k d) : p = (k, d) ∨ p ∈ t := by
  unfold setN at h
  split at h
  · obtain ⟨q, hq, e⟩ := List.mem_map.mp h
    by_cases z : q.1 = k
    · rw [if_pos z] at e
      exact .inl (by rw [← e, z])
    · rw [if_neg z] at e
      exact .inr (e ▸ hq)
  · rcases List.mem_append.mp h with h | h
    · exact .inr h
    · exact .inl (List.mem_singleton.mp h)
theorem val_mem {k : NestedKey} {d : PyData} : ∀ {t : NT}, valN t k = some d → (k, d) ∈ t
  | [], h => by cases h
  | p :: t, h => by
    rw [valN_cons] at h
    by_cases e : p.1 = k
    · rw [if_pos e] at h
      have : p = (k, d) := Prod.ext e (Option.some.inj h)
      rw [this]
      exact List.mem_cons_self
    · rw [if_neg e] at h
      exact List.mem_cons_of_mem _ (val_mem h)
/-- the table of these contents and histories -/
def tabOf (cs : List Nat) (l : List (Con × List TEv)) : NT := l.foldl (fun t q => setN t (hK q) (dN (paidT cs q.2))) []
theorem tab_snoc {cs : List Nat} {l : List (Con × List TEv)} {q : Con × List TEv} : tabOf cs (l ++ [q]) = setN (tabOf cs l) (hK q) (dN (paidT cs q.2)) := by
  unfold tabOf
  rw [List.foldl_append]
  rfl
/-- by the last one -/
theorem snoc_ind {α : Type} {P : List α → Prop} (h0 : P []) (h1 : ∀ l x, P l → P (l ++ [x])) (l : List α) : P l := by
  have go : ∀ n (l : List α), l.length = n → P l := by
    intro n
    induction n with
    | zero => intro l hl; rw [List.length_eq_zero_iff.mp hl]; exact h0
    | succ n ih =>
      intro l hl
      have hne : l ≠ [] := fun e => by rw [e] at hl; cases hl
      rw [← List.dropLast_concat_getLast hne]
      exact h1 _ _ (ih _ (by rw [List.length_dropLast, hl]; rfl))
  exact go _ l rfl
theorem tab_len (cs : List Nat) (l : List (Con × List TEv)) : (tabOf cs l).length ≤ l.length := by
  refine snoc_ind (P := fun l => (tabOf cs l).length ≤ l.length) (Nat.le_refl _) (fun l q ih => ?_) l
  rw [tab_snoc, List.length_append, List.length_singleton]
  exact Nat.le_trans (setN_len _ _ _) (Nat.succ_le_succ ih)
theorem tab_val (cs : List Nat) (l : List (Con × List TEv)) : ∀ q ∈ l, valN (tabOf cs l) (hK q) = some (dN (paidT cs q.2)) := by
  refine snoc_ind (P := fun l => ∀ q ∈ l, valN (tabOf cs l) (hK q) = some (dN (paidT cs q.2))) (fun _ z => nomatch z) (fun l r ih q hq => ?_) l
  rw [tab_snoc, valN_setN]
  by_cases e : hK r = hK q
  · rw [if_pos e, hK_inj e]
  · rw [if_neg e]
    rcases List.mem_append.mp hq with hq | hq
    · exact ih q hq
    · exact absurd (by rw [List.mem_singleton.mp hq]) e
theorem tab_mem (cs : List Nat) (l : List (Con × List TEv)) : ∀ p ∈ tabOf cs l, ∃ q ∈ l, p = (hK q, dN (paidT cs q.2)) := by
  refine snoc_ind (P := fun l => ∀ p ∈ tabOf cs l, ∃ q ∈ l, p = (hK q, dN (paidT cs q.2))) (fun _ z => nomatch z) (fun l r ih p hp => ?_) l
  rw [tab_snoc] at hp
  rcases setN_mem hp with rfl | hp
  · exact ⟨r, List.mem_append_right _ (List.mem_singleton.mpr rfl), rfl⟩
  · obtain ⟨q, hq, e⟩ := ih p hp
    exact ⟨q, List.mem_append_left _ hq, e⟩
/-! ### a dict that stands -/
/-- d[y] in a block -/
theorem pe_ngetB {X : Cx} {o i : Expr} {pos : Pos} {td ty : TE} (P : Program) (w : World) (hP : X.prog = P) (hw : X.w = w) (hu : X.A.units + 9 < cLine) (ho : PE X o td) (hi : PE X i ty) (hs : NoSl i) : PE X (.Subscript o i pos) (tNGet P w td ty) := by
  subst hP
  subst hw
  exact pe_nget hu ho hi hs
section
variable {P : Program} {w : World} {T : List (Addr × Str)} {po : Option PenD} {Hb : Hp} {gs : List (V × AV)} {env : List AV} {K : PySem.W.Frag} {ta tb te : TE} {H : Hp} {σ : L2.St} {D : Ends} {i j k : Nat} {b : Addr} {t : NT}
theorem ec_keys (hD : DN P w Hb b t) (np : NP po b) (h : env[i]? = some (.r (.ref b))) : EvC T po Hb gs env (iKeysN P w (tVar i)) (· = t.map fun p => kd p.1) := fun σ H F R q => by
  obtain ⟨_, o, xs, h1, h2, h3⟩ := hD.keep F.ext np
  refine ⟨.ref b, F.rf h, b, o, xs, rfl, h1, q _ H _ _ (Ex.refl H) F ⟨h1, ents_dt h2⟩ (fun H2 H3 s e => ⟨e.keep b _ np (fun _ z => nomatch z) s.1, s.2.mono e.tup⟩) (jw_keys h2) rfl⟩
theorem ev_nget {ds : List PyData} {k : NestedKey} {d : PyData} (hD : DN P w Hb b t) (np : NP po b) (h : env[i]? = some (.r (.ref b))) (h1 : EvD T po Hb gs env ta (.tuple ds)) (hk : kd k = .tuple ds) (hd : k.depth ≤ 8) (hv : valN t k = some d) : EvD T po Hb gs env (tNGet P w (tVar i) ta) d := fun σ H F Q q => by
  refine ⟨.ref b, F.rf h, h1 σ H F _ fun v H2 e2 F2 r2 => ?_⟩
  obtain ⟨a, xs, rfl, _⟩ := id r2.t
  exact ⟨b, a, t, k, d, rfl, rfl, hD.keep F2.ext np, by rw [hk]; exact r2, hd, hv, fun v r => q v H2 e2 F2 r⟩
theorem ev_nnotin {ds : List PyData} {k : NestedKey} (hD : DN P w Hb b t) (np : NP po b) (h : env[i]? = some (.r (.ref b))) (h1 : EvD T po Hb gs env ta (.tuple ds)) (hk : kd k = .tuple ds) (hd : k.depth ≤ 8) : EvD T po Hb gs env (tNNotIn P w ta (tVar i)) (.bool (!(valN t k).isSome)) := fun σ H F Q q => by
  refine h1 σ H F _ fun v H2 e2 F2 r2 => ⟨.ref b, F2.rf h, ?_⟩
  obtain ⟨a, xs, rfl, _⟩ := id r2.t
  exact ⟨b, a, t, k, rfl, rfl, hD.keep F2.ext np, by rw [hk]; exact r2, hd, q _ H2 e2 F2 (.bl _)⟩
theorem el_listD (hD : DN P w Hb b t) (np : NP po b) (h : env[i]? = some (.r (.ref b))) : EvL T po Hb gs env (tCB (rListN P w) (tCons (tVar i) tNil)) (· = t.map fun p => kd p.1) := fun σ H F Q q => by
  obtain ⟨hz, o, xs, h1, h2, _⟩ := hD.keep F.ext np
  refine ⟨.ref b, F.rf h, b, o, xs, rfl, h1, by rw [← h2.length]; exact hz, fun p hp => ?_⟩
  have e2 : Ex T po H (upd H p (.lst (xs.map fun x => .ref x.2.1))) := Ex.new hp
  exact q _ _ _ _ e2 (F.mono e2) hp upd_same ((ents_dt h2).mono e2.tup) rfl
theorem ev_maxL {ns : List Int} {m : Int} (h : EvK T po Hb gs env te (· = ns.map PyData.int)) (hm : m ∈ ns) (hx : ∀ y ∈ ns, y ≤ m) : EvD T po Hb gs env (tCB (rMax K) (tCons te tNil)) (.int m) := fun σ H F Q q => by
  refine h σ H F _ fun a vs ds H1 e1 F1 np h1 r1 p1 => ?_
  subst p1
  have e := r1.ints
  subst e
  refine ⟨a, ns, rfl, SqL.of h1, List.length_pos_of_mem hm, fun m' hm' hx' => ?_⟩
  have e : m' = m := by
    have := hx m' hm'
    have := hx' m hm
    omega
  subst e
  exact q _ H1 e1 F1 (.int _)
theorem ev_maxL' {R1 R2 : List Int → Prop} {m : Int} (h : EvK T po Hb gs env te (fun out => ∃ ns : List Int, out = ns.map PyData.int ∧ R1 ns ∧ R2 ns)) (hm : ∀ ns, R1 ns → R2 ns → m ∈ ns ∧ ∀ y ∈ ns, y ≤ m) : EvD T po Hb gs env (tCB (rMax K) (tCons te tNil)) (.int m) := fun σ H F Q q => by
  refine h σ H F _ fun a vs ds H1 e1 F1 np h1 r1 ⟨ns, p1, p2, p3⟩ => ?_
  subst p1
  have e := r1.ints
  subst e
  obtain ⟨hm, hx⟩ := hm ns p2 p3
  refine ⟨a, ns, rfl, SqL.of h1, List.length_pos_of_mem hm, fun m' hm' hx' => ?_⟩
  have e : m' = m := by
    have := hx m' hm'
    have := hx' m hm
    omega
  subst e
  exact q _ H1 e1 F1 (.int _)
theorem ev_max2 {a c : Int} (h1 : EvD T po Hb gs env ta (.int a)) (h2 : EvD T po Hb gs env tb (.int c)) : EvD T po Hb gs env (tCB (fun xs H Q => ∃ i j, xs = [.int i, .int j] ∧ Q (.int (if j > i then j else i)) H) (tCons ta (tCons tb tNil))) (.int (if c > a then c else a)) := fun σ H F Q q => by
  refine h1 σ H F _ fun v H1 e1 F1 r1 => h2 σ H1 F1 _ fun w H2 e2 F2 r2 => ?_
  obtain rfl := r1.i
  obtain rfl := r2.i
  exact ⟨a, c, rfl, q _ H2 (e1.trans e2) F2 (.int _)⟩
theorem et_not {t : TT} {Pb : Bool → Prop} (h : EvT T po Hb gs env t Pb) : EvT T po Hb gs env (tNot t) (fun b => ∃ c, Pb c ∧ b = !c) := fun σ H F Q q => h σ H F _ fun b H' e F' p => q (!b) H' e F' ⟨b, p, rfl⟩
/-! ### the base moved on, and back -/
theorem Fr.rebase (F : Fr T po Hb [] env H σ) (hl : ∀ x ∈ env, ∀ ys, x ≠ .l ys) : Fr T po H [] env H σ := by
  refine ⟨Ex.refl H, F.penNow, F.len, fun j x h => ?_, fun j k a xs ys _ h1 _ _ => absurd rfl (hl _ (List.mem_of_getElem? h1) xs), fun g hg => nomatch hg⟩
  cases x with
  | u => trivial
  | d x => exact F.sl j _ h
  | l xs => exact absurd rfl (hl _ (List.mem_of_getElem? h) xs)
  | k xs => exact F.klst h
  | r v => exact F.sl j _ h
theorem Fr.unbase {H1 : Hp} (F : Fr T po H1 [] env H σ) (e : Ex T po Hb H1) (hp : ∀ P, po = some P → Pen P Hb) (hk : ∀ x ∈ env, ∀ ys, x ≠ .k ys) : Fr T po Hb [] env H σ := by
  refine ⟨e.trans F.ext, hp, F.len, fun j x h => ?_, F.sep, fun g hg => nomatch hg⟩
  cases x with
  | u => trivial
  | d x => exact F.sl j _ h
  | l xs =>
    obtain ⟨a, vs, h1, h2, h3, h4⟩ := F.lst h
    exact ⟨a, vs, h1, e.dom a h2, h3, h4⟩
  | k xs => exact absurd rfl (hk _ (List.mem_of_getElem? h) xs)
  | r v => exact F.sl j _ h
/-- a slot is told no more -/
theorem Fr.drop1 (F : Fr T po Hb gs env H σ) (i : Nat) : Fr T po Hb gs (env.set i .u) H σ := by
  by_cases hi : i < σ.length
  · have q := F.setU (i := i) (s := σ[i])
    rwa [List.set_getElem_self] at q
  · have e : env.set i .u = env := List.set_eq_of_length_le (by rw [F.len]; omega)
    rw [e]
    exact F
/-! ### unpacking -/
theorem gN3 {l : Nat} {v : V} {x y z : PyData} {Q : L2.St → Hp → Prop} (F : Fr T po Hb gs env H σ) (r : Dt H v (.tuple [x, y, z])) (q : ∀ v1 v2 v3, Fr T po Hb gs (((env.set i (.d x)).set j (.d y)).set l (.d z)) H (((σ.set i (some v1)).set j (some v2)).set l (some v3)) → Q (((σ.set i (some v1)).set j (some v2)).set l (some v3)) H) : gTup K 3 (gCons (gName i) (gCons (gName j) (gCons (gName l) gNil))) v σ H Q := by
  obtain ⟨a, xs, rfl, h1, h2⟩ := r.t
  rcases h2 with _ | ⟨r1, h2⟩
  rcases h2 with _ | ⟨r2, h2⟩
  rcases h2 with _ | ⟨r3, h2⟩
  cases h2
  exact ⟨a, _, rfl, SqT.of h1, rfl, _, _, rfl, _, _, rfl, _, _, rfl, rfl, q _ _ _ (((F.setD r1).setD r2).setD r3)⟩
theorem st_set3X {l : Nat} {Pd : PyData → PyData → PyData → Prop} (F : Fr T po Hb gs env H σ) (h : Ev T po Hb gs env te fun d => ∃ x y z, d = .tuple [x, y, z] ∧ Pd x y z) (q : ∀ v w u x y z H', Ex T po H H' → Fr T po Hb gs (((env.set i (.d x)).set j (.d y)).set l (.d z)) H' (((σ.set i (some v)).set j (some w)).set l (some u)) → Pd x y z → D.nx (((σ.set i (some v)).set j (some w)).set l (some u)) H') :
    tAsg te (gTup K 3 (gCons (gName i) (gCons (gName j) (gCons (gName l) gNil)))) D σ H :=
  h σ H F _ fun v d H' e F' r ⟨x, y, z, ed, p⟩ => by
    subst ed
    exact gN3 F' r fun v w u F2 => q v w u x y z H' e F2 p
theorem st_set5X {a b c d e : Nat} {Pd : PyData → PyData → PyData → PyData → PyData → Prop} (F : Fr T po Hb gs env H σ) (h : Ev T po Hb gs env te fun d => ∃ x1 x2 x3 x4 x5, d = .tuple [x1, x2, x3, x4, x5] ∧ Pd x1 x2 x3 x4 x5)
    (q : ∀ v1 v2 v3 v4 v5 x1 x2 x3 x4 x5 H', Ex T po H H' → Fr T po Hb gs (((((env.set a (.d x1)).set b (.d x2)).set c (.d x3)).set d (.d x4)).set e (.d x5)) H' (((((σ.set a (some v1)).set b (some v2)).set c (some v3)).set d (some v4)).set e (some v5)) → Pd x1 x2 x3 x4 x5 → D.nx (((((σ.set a (some v1)).set b (some v2)).set c (some v3)).set d (some v4)).set e (some v5)) H') :
    tAsg te (gTup K 5 (gCons (gName a) (gCons (gName b) (gCons (gName c) (gCons (gName d) (gCons (gName e) gNil)))))) D σ H :=
  h σ H F _ fun v dd H' ee F' r ⟨x1, x2, x3, x4, x5, ed, p⟩ => by
    subst ed
    obtain ⟨ad, xs, rfl, h1, h2⟩ := r.t
    rcases h2 with _ | ⟨r1, h2⟩
    rcases h2 with _ | ⟨r2, h2⟩
    rcases h2 with _ | ⟨r3, h2⟩
    rcases h2 with _ | ⟨r4, h2⟩
    rcases h2 with _ | ⟨r5, h2⟩
    cases h2
    exact ⟨ad, _, rfl, SqT.of h1, rfl, _, _, rfl, _, _, rfl, _, _, rfl, _, _, rfl, _, _, rfl, rfl, q _ _ _ _ _ _ _ _ _ _ H' ee (((((F'.setD r1).setD r2).setD r3).setD r4).setD r5) p⟩
end
theorem Ex.after {T : List (Addr × Str)} {Pn : PenD} {H H1 H2 : Hp} (e1 : Ex T none H H1) (hp : H Pn.p = none) (hpen : Pen Pn H1) (e2 : Ex T (some Pn) H1 H2) : Ex T none H H2 := by
  refine ⟨fun a o _ h2 h => e2.keep a o (fun P q z => ?_) h2 (e1.keep a o NP.none h2 h), e1.tup.trans e2.tup, (fun _ z => nomatch z), fun a h => e1.dom a (e2.dom a h), fun h => e2.tab (e1.tab h)⟩
  cases q
  rw [z, hp] at h
  cases h
end K22
/-! LL: the law. -/
namespace K22
open PySem PySem.Spec L2 LamX
abbrev s_law : Stmt := topS 52
theorem sc_law : FnScope ["_law_script", "_law_pen_here", "_law_turn", "_law_house_here", "_law_route_here", "_law_stand", "_law_rounds", "_law_way_here", "_law_costs", "_law_every", "_law_content", "_law_history", "_law_paid_here", "_law_key", "_law_most"] ["_law_script"] (defScope s_law) := ⟨rfl, rfl, rfl, by decide +kernel, rfl, by decide +kernel, by decide +kernel⟩
section
variable {P : Program} {w : World} {K : PySem.W.Frag} {mg : Str → Option Value} {base : Heap} {T : List (Addr × Str)}
def spLaw (K : PySem.W.Frag) (T : List (Addr × Str)) : Sp := fun vs H Q _ => ∃ (a : Addr) (ns : List Int), vs = [.ref a] ∧ SqL K H a (ns.map V.int) ∧ Tabs T H ∧ ∀ H', Ex T none H H' → Q (.bl true) H'
theorem st_newPen {Hb : Hp} {gs : List (V × AV)} {env : List AV} {σ : L2.St} {H : Hp} {D : Ends} {E : XK} {i j : Nat} {ns : List Int} {a : Addr} (F : Fr T none Hb gs env H σ) (h : env[j]? = some (.r (.ref a))) (hs : SqL K Hb a (ns.map V.int)) (q : ∀ (Pn : PenD) H2, Ex T none H H2 → H Pn.p = none → H Pn.c = none → Pen Pn H2 → D.nx (σ.set i (some (.ref Pn.p))) H2) :
    tAsg (tCall (spPen K T) [] E (tCons (tVar j) tNil)) (gName i) D σ H := by
  exact ⟨.ref a, F.rf h, a, ns, rfl, sql_keep F.ext (fun _ => NP.none) hs, fun Pn H2 e2 n1 n2 hp => q Pn H2 e2 n1 n2 hp⟩
/-- a, d = a datum, {} -/
theorem st_pairN {po : Option PenD} {Hb : Hp} {gs : List (V × AV)} {env : List AV} {σ : L2.St} {H : Hp} {D : Ends} {ta : TE} {i j : Nat} {Pd : PyData → Prop} (F : Fr T po Hb gs env H σ) (h : Ev T po Hb gs env ta Pd) (q : ∀ v d b H', Ex T po H H' → Fr T po Hb gs ((env.set i (.d d)).set j (.r (.ref b))) H' ((σ.set i (some v)).set j (some (.ref b))) → Pd d → H b = none → DN P w H' b [] → D.nx ((σ.set i (some v)).set j (some (.ref b))) H') :
    tAsg (tTup (tCons ta (tCons (tDNew P w) tNil))) (gTup K 2 (gCons (gName i) (gCons (gName j) gNil))) D σ H := by
  unfold tAsg tTup tCons tDNew tNil
  refine h σ H F _ fun v d H1 e1 F1 r1 p1 b ob hb hob => ⟨small24 (n := 2) (by decide), fun pt hpt => ?_⟩
  have eb : Ex T po H1 (upd H1 b (DNo P w b ob [])) := Ex.new hb
  have ep : Ex T po (upd H1 b (DNo P w b ob [])) (upd (upd H1 b (DNo P w b ob [])) pt (.tup [v, .ref b])) := Ex.new hpt
  have hne : b ≠ pt := fun e => by
    rw [← e, upd_same] at hpt
    cases hpt
  refine ⟨pt, _, rfl, SqT.of upd_same, rfl, _, _, rfl, _, _, rfl, rfl, ?_⟩
  exact q v d b _ (e1.trans (eb.trans ep)) (((F1.mono eb).mono ep).setD (r1.mono (eb.trans ep).tup) |>.setR) p1 (e1.dom b hb) ⟨Nat.zero_le _, ob, [], by rw [upd_ne hne]; exact upd_same, .nil, hob⟩
/-- d[key] = value, d made since -/
theorem st_nset {po : Option PenD} {Hb : Hp} {gs : List (V × AV)} {env : List AV} {σ : L2.St} {H : Hp} {D : Ends} {ty tv : TE} {i : Nat} {b : Addr} {t : NT} {k : NestedKey} {ds : List PyData} {Pd : PyData → Prop} (F : Fr T po Hb gs env H σ) (hb0 : Hb b = none) (hi : env[i]? = some (.r (.ref b))) (hD : DN P w H b t) (hv : Ev T po Hb gs env tv Pd) (hy : EvD T po Hb gs env ty (.tuple ds)) (hk : kd k = .tuple ds) (hd : k.depth ≤ 8) (hl : t.length < 16777216)
    (q : ∀ H' d, Fr T po Hb gs env H' σ → Pd d → DN P w H' b (setN t k d) → D.nx σ H') : sNSet P w (tVar i) ty tv D σ H := by
  unfold sNSet
  refine hv σ H F _ fun v d H1 e1 F1 r1 p1 => ⟨.ref b, F1.rf hi, hy σ H1 F1 _ fun y H2 e2 F2 r2 => ?_⟩
  have np : NP po b := F.notPen hb0
  obtain ⟨a, xs, rfl, _⟩ := id r2.t
  have hD2 := hD.keep (e1.trans e2) np
  refine ⟨b, a, t, k, d, rfl, rfl, hD2, by rw [hk]; exact r2, hd, small24' hl, r1.mono e2.tup, fun o xs hd' => ?_⟩
  obtain ⟨F3, tk⟩ := F2.putN (o := DNo P w b o xs) hb0 hD2 (F2.offN hD2)
  exact q _ d F3 p1 hd'
theorem ev_dearest {po : Option PenD} {Hb : Hp} {gs : List (V × AV)} {env : List AV} {E : XK} {t1 t2 t3 t4 t5 t6 t7 : TE} {a : SArg} {cs : List Nat} (h1 : EvD T po Hb gs env t1 (encH a.h)) (h2 : EvD T po Hb gs env t2 (dNs cs)) (h3 : EvD T po Hb gs env t3 (encR a.r)) (h4 : EvD T po Hb gs env t4 (dN a.p)) (h5 : EvD T po Hb gs env t5 (encS a.s)) (h6 : EvD T po Hb gs env t6 (dN a.rounds)) (h7 : EvD T po Hb gs env t7 (encW a.w)) (ha : a.Ok) (hcs : cs.length = 3) (hT : Tabs T Hb) :
    Ev T po Hb gs env (tCall (spDearest T) [] E (tCons t1 (tCons t2 (tCons t3 (tCons t4 (tCons t5 (tCons t6 (tCons t7 tNil)))))))) (fun d => ∃ y1 y2 y3, d = .tuple [y1, y2, y3] ∧ ∃ x ts e y, x ∈ a.s ∧ Best (evsOf a.r cs a.p a.w) e ∧ PathU a.h x e.2 ts y ∧ y1 = encC x ∧ y2 = encHist ts ∧ y3 = dN e.1) := fun σ H F Q q => by
  obtain ⟨ho, hro, hp, hs, hw, hd60, hons⟩ := ha
  refine (ea_c h1 (ea_c h2 (ea_c h3 (ea_c h4 (ea_c h5 (ea_c h6 (ea_c h7 ea_nil))))))) σ H F _ fun vs xs H1 e1 F1 r1 p1 => ?_
  subst p1
  rw [List.append_nil]
  exact ⟨a.h, cs, a.r, a.p, a.s, dN a.rounds, a.w, r1.weak, ho, hro, hcs, hp, hs, hw, by omega, F1.ext.tab hT, fun v H' x ts e y e2 hx hb hpath r => q v _ H' (e1.trans e2.weak) (F1.mono e2.weak) r ⟨_, _, _, rfl, x, ts, e, y, hx, hb, hpath, rfl, rfl, rfl⟩⟩
/-- max([d[key] for key in d]) -/
theorem ev_most2 {po : Option PenD} {Hb : Hp} {gs : List (V × AV)} {env : List AV} {i j : Nat} {b : Addr} {cs : List Nat} {l : List (Con × List TEv)} {m : Nat} (hDN : DN P w Hb b (tabOf cs l)) (np : NP po b) (hl : l.length < 16777216) (hi : ∀ d, (env.set j (.d d))[i]? = some (.r (.ref b)) ∧ (env.set j (.d d))[j]? = some (.d d) ∧ env[i]? = some (.r (.ref b))) (hm : ∃ q ∈ l, paidT cs q.2 = m) (top : ∀ q ∈ l, paidT cs q.2 ≤ m) :
    EvD T po Hb gs env (tCB (rMax K) (tCons (tLc (iKeysN P w (tVar i)) (gName j) tYes (tNGet P w (tVar i) (tVar j)) [j]) tNil)) (dN m) := by
  have body : EvL T po Hb gs env (tLc (iKeysN P w (tVar i)) (gName j) tYes (tNGet P w (tVar i) (tVar j)) [j]) (fun out => ∃ ns : List Int, out = ns.map PyData.int ∧ (∀ n ∈ ns, ∃ q ∈ l, n = (paidT cs q.2 : Nat)) ∧ ∀ q ∈ l, ((paidT cs q.2 : Nat) : Int) ∈ ns) :=
    (el_compC (Pl := fun ds => ds = (tabOf cs l).map fun p => kd p.1) (fun _ b => b = true) (fun d e => ∃ q ∈ l, d = hD q ∧ e = dN (paidT cs q.2)) (ec_keys (P := P) (w := w) hDN np (hi .none).2.2) (tg_name (i := j)) (fun ds e => ⟨by rw [e, List.length_map]; have := tab_len cs l; omega, fun _ _ => trivial⟩) (fun _ _ _ _ => et_yes) (fun ds e d hd _ => by
      rw [e] at hd
      obtain ⟨p, hp, rfl⟩ := List.mem_map.mp hd
      obtain ⟨q, hq, rfl⟩ := tab_mem cs l p hp
      have hd : kd (hK q) = hD q := kd_hK q
      dsimp only
      rw [hd]
      obtain ⟨g1, g2, _⟩ := hi (hD q)
      exact (ev_nget (P := P) (w := w) (k := hK q) (ds := [encC q.1, encHist q.2]) hDN np g1 (ev_v g2) hd (dep_hK q) (tab_val cs l q hq)).ev.imp fun e he => ⟨q, hq, rfl, he⟩)).imp fun out ⟨ds, e, hR⟩ => by
      have pr := hR.all
      have outs : ∀ {ds out : List PyData}, Paired (fun d e => ∃ q ∈ l, d = hD q ∧ e = dN (paidT cs q.2)) ds out → ∃ ns : List Int, out = ns.map PyData.int ∧ (∀ n ∈ ns, ∃ q ∈ l, n = (paidT cs q.2 : Nat)) ∧ ∀ q, hD q ∈ ds → ((paidT cs q.2 : Nat) : Int) ∈ ns := by
        intro ds out h
        induction h with
        | nil => exact ⟨[], rfl, fun _ z => (nomatch z), fun _ z => (nomatch z)⟩
        | cons h1 _ ih =>
          obtain ⟨q, hq, e1, e2⟩ := h1
          obtain ⟨ns, i1, i2, i3⟩ := ih
          subst e1
          subst e2
          refine ⟨(paidT cs q.2 : Nat) :: ns, by rw [i1]; rfl, fun n hn => ?_, fun r hr => ?_⟩
          · rcases List.mem_cons.mp hn with rfl | hn
            · exact ⟨q, hq, rfl⟩
            · exact i2 n hn
          · rcases List.mem_cons.mp hr with e | hr
            · rw [hD_inj e]
              exact List.mem_cons_self
            · exact List.mem_cons_of_mem _ (i3 r hr)
      obtain ⟨ns, i1, i2, i3⟩ := outs pr
      refine ⟨ns, i1, i2, fun q hq => i3 q ?_⟩
      rw [e]
      have z := val_mem (tab_val cs l q hq)
      exact List.mem_map.mpr ⟨_, z, kd_hK q⟩
  intro σ H F Q q0
  obtain ⟨q, hq, eq⟩ := hm
  refine ev_maxL' (K := K) body.k (m := (m : Int)) (fun ns i2 i3 => ⟨by rw [← eq]; exact i3 q hq, fun y hy => ?_⟩) σ H F Q q0
  obtain ⟨r, hr, e⟩ := i2 y hy
  have := top r hr
  omega
/-- all that is lived, with the content it begins at -/
def allL (a : SArg) (l : List Con) : List (Con × List TEv) := l.flatMap fun x => (livedW a.h a.r a.p x a.w).map fun ts => (x, ts)
theorem ok_law (B : Bi mg) {f : Addr} {fd : FuncData} (D : Df K mg "law" s_law f fd ["_law_script"]) (C1 : Cal P w K mg base "_law_pen" s__law_pen ["_law_script"] 1 (spPen K T)) (C2 : Cal P w K mg base "_law_some_ways" s__law_some_ways ["_law_pen_here", "_law_most"] 65 (spSome T))
    (C3 : Cal P w K mg base "_law_prices" s__law_prices ["_law_pen_here"] 4 (spPrices T)) (C4 : Cal P w K mg base "_law_all_lived" s__law_all_lived ["_law_house_here", "_law_route_here", "_law_stand", "_law_way_here", "_law_content"] 63 (spLived T 60))
    (C5 : Cal P w K mg base "_law_paid" s__law_paid ["_law_costs", "_law_history"] 1 (spPaid T)) (C6 : Cal P w K mg base "dearest" s_dearest ["house", "prices", "route", "place", "some", "rounds", "way"] 113 (spDearest T))
    (C7 : Cal P w K mg base "_law_sure_at_asks" s__law_sure_at_asks ["_law_house_here", "_law_some", "_law_history"] 12 (spAsks T)) :
    Cal P w K mg base "law" s_law ["_law_script"] 114 (spLaw K T) := by
  obtain ⟨fa, fda, D_pen, G_pen⟩ := C1
  obtain ⟨fb, fdb, D_some_ways, G_some_ways⟩ := C2
  obtain ⟨fc, fdc, D_prices, G_prices⟩ := C3
  obtain ⟨fe, fde, D_all_lived, G_all_lived⟩ := C4
  obtain ⟨fg, fdg, D_paid, G_paid⟩ := C5
  obtain ⟨fh, fdh, D_dearest, G_dearest⟩ := C6
  obtain ⟨fi, fdi, D_sure_at_asks, G_sure_at_asks⟩ := C7
  refine ⟨f, fd, D, D.F.ok sc_law (fun vs H Q E h => ?_) (fun cdv A outer s H vs Q E hr h => ?_)⟩
  · obtain ⟨a, ns, rfl, _⟩ := h
    rfl
  · obtain ⟨sa, ns, rfl, hsq, hT, k⟩ := h
    have hA : ∀ (po : Option PenD) (H : Hp), Args po H [.ref sa] [.r (.ref sa)] := fun po H => .cons (x := .r (.ref sa)) rfl (fun _ z => nomatch z) .nil
    have F0 := Fr.start (T := T) (po := none) (N := ["_law_script", "_law_pen_here", "_law_turn", "_law_house_here", "_law_route_here", "_law_stand", "_law_rounds", "_law_way_here", "_law_costs", "_law_every", "_law_content", "_law_history", "_law_paid_here", "_law_key", "_law_most"]) (fun _ z => nomatch z) (hA none H) (Nat.le_of_ble_eq_true rfl)
    refine ⟨_, (pss_cons (ps_set (i := 1) sc_law.nd rfl (Or.inl rfl) (pe_call G_pen (hr.mono (by omega)) (by rfl) D_pen.m D_pen.F.kp D_pen.b .nil pass0 (pa_cons (pv 0) pa_nil)))
      (pss_cons (ps_for PassesOwn.never rfl (pi_range1 (by rfl) B.range (pa_cons (pe_callB (call_max2 rfl) (by rfl) B.max (by decide +kernel) (pa_cons pe_int (pa_cons (pe_callB (call_min2 rfl) (by rfl) B.min (by decide +kernel) (pa_cons pe_int (pa_cons (pe_callB call_len_seq (by rfl) B.len PySem.boot_len (pa_cons (pv 0) pa_nil)) pa_nil))) pa_nil))) pa_nil)) (pg_name (i := 2) sc_law.nd rfl (Or.inl rfl)) (pss_cons (ps_asg (pe_call G_some_ways (hr.mono (by omega)) (by rfl) D_some_ways.m D_some_ways.F.kp D_some_ways.b .nil pass0 (pa_cons (pv 1) (pa_cons pe_int pa_nil))) (pg_tup (by rfl) (pgs_cons (pg_name (i := 3) sc_law.nd rfl (Or.inl rfl)) (pgs_cons (pg_name (i := 4) sc_law.nd rfl (Or.inl rfl)) (pgs_cons (pg_name (i := 5) sc_law.nd rfl (Or.inl rfl)) (pgs_cons (pg_name (i := 6) sc_law.nd rfl (Or.inl rfl)) (pgs_cons (pg_name (i := 7) sc_law.nd rfl (Or.inl rfl)) pgs_nil)))))))
      (pss_cons (ps_asg (pe_tup (pa_cons (pe_call G_prices (hr.mono (by omega)) (by rfl) D_prices.m D_prices.F.kp D_prices.b .nil pass0 (pa_cons (pv 1) pa_nil)) (pa_cons pe_dnewN pa_nil))) (pg_tup (by rfl) (pgs_cons (pg_name (i := 8) sc_law.nd rfl (Or.inl rfl)) (pgs_cons (pg_name (i := 9) sc_law.nd rfl (Or.inr rfl)) pgs_nil))))
      (pss_cons (ps_for PassesOwn.never rfl (pi_tup (pe_ix ix_tup (pv 5) pe_int (fun _ _ => rfl))) (pg_name (i := 10) sc_law.nd rfl (Or.inl rfl)) (pss_one (ps_for PassesOwn.never rfl (pi_list (pe_call G_all_lived (hr.mono (by omega)) (by rfl) D_all_lived.m D_all_lived.F.kp D_all_lived.b .nil pass0 (pa_cons (pv 3) (pa_cons (pv 4) (pa_cons (pv 5) (pa_cons (pv 7) (pa_cons (pv 10) pa_nil))))))) (pg_name (i := 11) sc_law.nd rfl (Or.inl rfl)) (pss_one (ps_nset (u9 hr) (pv 9) (pe_tup (pa_cons (pv 10) (pa_cons (pv 11) pa_nil))) (pe_call G_paid (hr.mono (by omega)) (by rfl) D_paid.m D_paid.F.kp D_paid.b .nil pass0 (pa_cons (pv 8) (pa_cons (pv 11) pa_nil))) rfl)))))
      (pss_cons (ps_asg (pe_call G_dearest (hr.mono (by omega)) (by rfl) D_dearest.m D_dearest.F.kp D_dearest.b .nil pass0 (pa_cons (pv 3) (pa_cons (pv 8) (pa_cons (pv 4) (pa_cons (pe_ix ix_tup (pv 5) pe_int (fun _ _ => rfl)) (pa_cons (pe_ix ix_tup (pv 5) pe_int (fun _ _ => rfl)) (pa_cons (pv 6) (pa_cons (pv 7) pa_nil)))))))) (pg_tup (by rfl) (pgs_cons (pg_name (i := 10) sc_law.nd rfl (Or.inl rfl)) (pgs_cons (pg_name (i := 11) sc_law.nd rfl (Or.inl rfl)) (pgs_cons (pg_name (i := 12) sc_law.nd rfl (Or.inl rfl)) pgs_nil)))))
      (pss_cons (ps_set (i := 14) sc_law.nd rfl (Or.inl rfl) (pe_callB (cr_max rfl) (by rfl) B.max (by decide +kernel) (pa_cons (pe_lc (own := [("_law_key", 13)]) (g := gName 13) rfl sc_law.nd (pi_keysN (pv 9)) (blkOk_by (N := ["_law_script", "_law_pen_here", "_law_turn", "_law_house_here", "_law_route_here", "_law_stand", "_law_rounds", "_law_way_here", "_law_costs", "_law_every", "_law_content", "_law_history", "_law_paid_here", "_law_key", "_law_most"]) (sc := defScope s_law) (by decide +kernel)) (fun _ _ _ _ _ => (pg_name (i := 13) sc_law.nd rfl (Or.inl rfl))) (fun _ _ _ _ _ => pts_nil) (fun _ _ _ _ _ => (pe_ngetB P w rfl rfl (by exact u9 hr) (pv 9) (pv 13) (fun _ _ => rfl)))) pa_nil)))
      (pss_cons (ps_if (PW.pt (pw_or (pt_cmp (pc_nnotin (u9 hr) (pe_tup (pa_cons (pv 10) (pa_cons (pv 11) pa_nil))) (pv 9)) rfl) (pw_or1 (pt_cmpR op_ne (pv 12) (pv 14) (nomark _))))) (pss_one (ps_ret pe_bl)) pss_nil)
      (pss_one (ps_for PassesOwn.never rfl (pi_list (pe_slice sl_list (pe_callTy (call_list_N rfl) (by rfl) B.list PyProof.Rows.boot_list (pa_cons (pv 9) pa_nil)) po_none (po_some pe_int))) (pg_name (i := 13) sc_law.nd rfl (Or.inl rfl)) (pss_one (ps_if (pt_not (pt_val (pe_call G_sure_at_asks (hr.mono (by omega)) (by rfl) D_sure_at_asks.m D_sure_at_asks.F.kp D_sure_at_asks.b .nil pass0 (pa_cons (pv 3) (pa_cons (pe_ix ix_tup (pv 5) pe_int (fun _ _ => rfl)) (pa_cons (pe_ix ix_tup (pv 13) pe_int (fun _ _ => rfl)) pa_nil)))))) (pss_one (ps_ret pe_bl)) pss_nil)))))))))))
      (pss_one (ps_ret pe_bl)))), ?_⟩
    refine sq (st_newPen (ns := ns) F0 rfl hsq fun Pn H2 e12 n1 n2 hpen => ?_)
    have F2 := (Fr.start (T := T) (po := some Pn) (N := ["_law_script", "_law_pen_here", "_law_turn", "_law_house_here", "_law_route_here", "_law_stand", "_law_rounds", "_law_way_here", "_law_costs", "_law_every", "_law_content", "_law_history", "_law_paid_here", "_law_key", "_law_most"]) (fun P e => by cases e; exact hpen) (hA (some Pn) H2) (Nat.le_of_ble_eq_true rfl)).setR (i := 1) (v := .ref Pn.p)
    have hsq2 : ∀ H3, Ex T (some Pn) H2 H3 → SqL K H3 sa (ns.map V.int) := fun H3 e3 => by
      rcases hsq with (h | ⟨o, h⟩) | h
      all_goals first
        | exact .inr h
        | skip
      all_goals
        have np : NP (some Pn) sa := fun P q z => by
          cases q
          rw [z, n1] at h
          cases h
      · exact sql_keep e3 (fun _ => np) (sql_keep e12 (fun _ => NP.none) (.inl (.inl h)))
      · exact sql_keep e3 (fun _ => np) (sql_keep e12 (fun _ => NP.none) (.inl (.inr ⟨o, h⟩)))
    have hT2 : Tabs T H2 := e12.tab hT
    dsimp only
    refine sq (st_forR (Pd := fun d => ∃ n : Nat, d = .int n ∧ n ≤ 4) (fun n j env' σ' H' => ∃ x0 x2 x3 x4 x5 x6 x7 x8 x9 x10 x11 x12 x13 x14, env' = [x0, .r (.ref Pn.p), x2, x3, x4, x5, x6, x7, x8, x9, x10, x11, x12, x13, x14]) F2 ((ev_max2 (a := 2) ev_i (ev_min2 (a := 4) ev_i (ev_lenQ (i := 0) (ns := ns) rfl hsq2))).ev.imp fun d e => ?_) (fun d ⟨n, e, hn⟩ => ⟨n, e, by omega⟩) (fun n H' e p => ⟨_, _, _, _, _, _, _, _, _, _, _, _, _, _, rfl⟩) (fun n j env' σ' H' p hk F' hI => ?_) (fun n env' σ' H' p F' hI => ?_))
    · refine ⟨Int.toNat (if (if ((ns.length : Nat) : Int) < 4 then ((ns.length : Nat) : Int) else 4) > 2 then (if ((ns.length : Nat) : Int) < 4 then ((ns.length : Nat) : Int) else 4) else 2), ?_, ?_⟩
      · rw [e]
        congr 1
        generalize ns.length = z
        split <;> (split <;> omega)
      · generalize ns.length = z
        split <;> (split <;> omega)
    · obtain ⟨x0, x2, x3, x4, x5, x6, x7, x8, x9, x10, x11, x12, x13, x14, rfl⟩ := hI
      have G := (((((F'.drop1 0).drop1 10).drop1 11).drop1 12).drop1 13).drop1 14
      refine gN G (.int _) fun F3 => ?_
      refine sq (st_set5X (Pd := fun y1 y2 y3 y4 y5 => ∃ a : SArg, a.Ok ∧ y1 = encH a.h ∧ y2 = encR a.r ∧ y3 = .tuple [dN a.p, encS a.s] ∧ y4 = dN a.rounds ∧ y5 = encW a.w) F3 ((ev_p (args := fun _ : Unit => [.d (dN 2)]) () (ea_r rfl (ea_c ev_i ea_nil)) trivial).imp fun d ⟨a, ha, e⟩ => ⟨_, _, _, _, _, e, a, ha, rfl, rfl, rfl, rfl, rfl⟩) fun v1 v2 v3 v4 v5 y1 y2 y3 y4 y5 H4 e4 F4 ⟨a, hok, p1, p2, p3, p4, p5⟩ => ?_)
      subst p1
      subst p2
      subst p3
      subst p4
      subst p5
      obtain ⟨ho, hro, hp, hs, hw, hd60, hons⟩ := hok
      dsimp only
      have l8 := hs.g.le8 ho
      have hpw : (12 : Nat) ^ 4 = 20736 := by decide
      have few : ∀ x ∈ a.s, (livedW a.h a.r a.p x a.w).length ≤ 20736 := fun x hx => by
        have z := lived_len ho hro 60 a.w a.p a.s x hd60 hw hs hx
        have z2 : 12 ^ a.w.ons ≤ 12 ^ 4 := Nat.pow_le_pow_right (by decide) hons
        omega
      have lenL : ∀ n, (allL a (a.s.take n)).length ≤ 165888 := fun n => by
        have z := fm_len (f := fun x => (livedW a.h a.r a.p x a.w).map fun ts => (x, ts)) (B := 20736) (l := a.s.take n) fun x hx => by
          rw [List.length_map]
          exact few x (List.mem_of_mem_take hx)
        have z2 : (a.s.take n).length ≤ a.s.length := by rw [List.length_take]; exact Nat.min_le_right _ _
        show ((a.s.take n).flatMap _).length ≤ _
        omega
      refine sq (st_pairN (P := P) (w := w) (i := 8) (j := 9) (Pd := fun d => ∃ cs : List Nat, cs.length = 3 ∧ d = dNs cs) F4 (ev_p (args := fun _ : Unit => []) () (ea_r rfl ea_nil) trivial) fun v8 d8 b H5 e5 F5 ⟨cs, hcs, p8⟩ hb4 hDN5 => ?_)
      subst p8
      dsimp only
      have hb0 : H2 b = none := F4.ext.dom b hb4
      have np : NP (some Pn) b := F5.notPen hb0
      refine sq (st_forT (ds := a.s.map encC) (fun n env' σ' H' => ∃ x10 x11, env' = [.u, .r (.ref Pn.p), .d (.int (j : Nat)), .d (encH a.h), .d (encR a.r), .d (.tuple [dN a.p, encS a.s]), .d (dN a.rounds), .d (encW a.w), .d (dNs cs), .r (.ref b), x10, x11, .u, .u, .u] ∧ DN P w H' b (tabOf cs (allL a (a.s.take n)))) F5 (ev_ix (ds := [dN a.p, encS a.s]) (ev_v rfl) ev_i rfl) (fun H' e => ⟨_, _, rfl, hDN5.keep e np⟩) (fun v0 n d v env' σ' H' hd F' hI hv => ?_) (fun env' σ' H' F' hI => ?_))
      · obtain ⟨x10, x11, rfl, hDN⟩ := hI
        rw [List.getElem?_map] at hd
        obtain ⟨x, hxn, rfl⟩ := Option.map_eq_some_iff.mp hd
        have hx := List.mem_of_getElem? hxn
        refine gN F' hv fun F6 => ?_
        refine st_forL (Pl := fun l => l = (livedW a.h a.r a.p x a.w).map encHist) (fun ds m env' σ' H' => ∃ x11, env' = [.u, .r (.ref Pn.p), .d (.int (j : Nat)), .d (encH a.h), .d (encR a.r), .d (.tuple [dN a.p, encS a.s]), .d (dN a.rounds), .d (encW a.w), .d (dNs cs), .r (.ref b), .d (encC x), x11, .u, .u, .u] ∧ DN P w H' b (tabOf cs (allL a (a.s.take n) ++ ((livedW a.h a.r a.p x a.w).take m).map fun ts => (x, ts)))) F6
          (el_c (args := fun a : LArg => [.d (encH a.h), .d (encR a.r), .d (.tuple [dN a.p, a.sd]), .d (encW a.w), .d (encC a.x)]) ⟨a.h, a.r, a.p, encS a.s, a.s, a.w, x⟩ (ea_c (ev_v rfl) (ea_c (ev_v rfl) (ea_c (ev_v rfl) (ea_c (ev_v rfl) (ea_c (ev_v rfl) ea_nil))))) ⟨ho, hro, hp, hs, hw, hx, hd60, hons⟩) (fun ds H7 e7 p7 => ⟨_, rfl, by rw [List.take_zero, List.map_nil, List.append_nil]; exact hDN.keep e7 np⟩) (fun v1 ds m d v2 env' σ' H' p7 hd F' hI hv => ?_) (fun ds env' σ' H' p7 F' hI => ?_)
        · obtain ⟨x11, rfl, hDN⟩ := hI
          subst p7
          rw [List.getElem?_map] at hd
          obtain ⟨ts, htm, rfl⟩ := Option.map_eq_some_iff.mp hd
          have ht := List.mem_of_getElem? htm
          have hm : m < (livedW a.h a.r a.p x a.w).length := (List.getElem?_eq_some_iff.mp htm).1
          obtain ⟨tok, _⟩ := lived_ok ho hro 60 a.w a.p a.s hd60 hw hs x hx ts ht
          have tl := lived_short 60 a.w a.p x hd60 ts ht
          refine gN F' hv fun F7 => ?_
          refine st_nset (P := P) (w := w) (b := b) (k := hK (x, ts)) (ds := [encC x, encHist ts]) F7 hb0 rfl hDN (ev_c (args := fun a : List Nat × List TEv => [.d (dNs a.1), .d (encHist a.2)]) (cs, ts) (ea_c (ev_v rfl) (ea_c (ev_v rfl) ea_nil)) ⟨by dsimp only; omega, fun t ht c v e => ?_⟩) (ev_tup (eu_c (ev_v rfl) (eu_c (ev_v rfl) eu_nil))) (kd_hK _) (dep_hK _) ?_ fun H8 d8 F8 p8 hDN8 => ?_
          · subst e
            have z : c < a.h.sizes.length := tok _ ht
            have := ho.s3
            show c < cs.length
            omega
          · have z1 := tab_len cs (allL a (a.s.take n) ++ ((livedW a.h a.r a.p x a.w).take m).map fun ts => (x, ts))
            rw [List.length_append, List.length_map, List.length_take] at z1
            have z2 := lenL n
            have z3 := few x hx
            omega
          · have p8 : d8 = dN (paidT cs ts) := p8
            subst p8
            refine ⟨_, F8, _, rfl, ?_⟩
            rw [take_snoc htm, List.map_append, ← List.append_assoc]
            show DN P w H8 b (tabOf cs (_ ++ [(x, ts)]))
            rw [tab_snoc]
            exact hDN8
        · obtain ⟨x11, rfl, hDN⟩ := hI
          subst p7
          rw [List.length_map, List.take_length] at hDN
          refine ⟨_, F', _, _, rfl, ?_⟩
          rw [show allL a (a.s.take (n + 1)) = allL a (a.s.take n) ++ (livedW a.h a.r a.p x a.w).map (fun ts => (x, ts)) from flatMap_take hxn]
          exact hDN
      · obtain ⟨x10, x11, rfl, hDN⟩ := hI
        rw [List.length_map, List.take_length] at hDN
        dsimp only
        have Fx := (F'.drop1 10).drop1 11
        have eX := Fx.ext
        have hTx : Tabs T H' := eX.tab hT2
        have hlL : (allL a a.s).length ≤ 165888 := by
          have z := lenL a.s.length
          rw [List.take_length] at z
          exact z
        have G1 := Fx.rebase (by
          intro x hx ys
          simp only [List.set_cons_succ, List.set_cons_zero, List.mem_cons, List.not_mem_nil, or_false] at hx
          rcases hx with rfl | rfl | rfl | rfl | rfl | rfl | rfl | rfl | rfl | rfl | rfl | rfl | rfl | rfl | rfl <;> exact fun q => nomatch q)
        refine sq (st_set3X (Pd := fun y1 y2 y3 => ∃ x ts e y, x ∈ a.s ∧ Best (evsOf a.r cs a.p a.w) e ∧ PathU a.h x e.2 ts y ∧ y1 = encC x ∧ y2 = encHist ts ∧ y3 = dN e.1) G1 (ev_dearest (a := a) (cs := cs) (ev_v rfl) (ev_v rfl) (ev_v rfl) (ev_ix (ds := [dN a.p, encS a.s]) (ev_v rfl) ev_i rfl) (ev_ix (ds := [dN a.p, encS a.s]) (ev_v rfl) ev_i rfl) (ev_v rfl) (ev_v rfl) ⟨ho, hro, hp, hs, hw, hd60, hons⟩ hcs hTx) fun v1 v2 v3 y1 y2 y3 H6 e6 F6 ⟨x, ts, e, y, hx, hbest, hpath, p1, p2, p3⟩ => ?_)
        subst p1
        subst p2
        subst p3
        obtain ⟨hlv, hpd⟩ := path_lived ho hro cs 60 a.w a.p a.s hd60 hw hs e hbest.1 x hx ts y hpath
        have hin : (x, ts) ∈ allL a a.s := List.mem_flatMap.mpr ⟨x, hx, List.mem_map.mpr ⟨ts, hlv, rfl⟩⟩
        have ofAll : ∀ q ∈ allL a a.s, q.1 ∈ a.s ∧ q.2 ∈ livedW a.h a.r a.p q.1 a.w := fun q hq => by
          obtain ⟨x, hx, hm⟩ := List.mem_flatMap.mp hq
          obtain ⟨ts, ht, rfl⟩ := List.mem_map.mp hm
          exact ⟨hx, ht⟩
        have top : ∀ q ∈ allL a a.s, paidT cs q.2 ≤ e.1 := fun q hq => by
          obtain ⟨_, h2⟩ := ofAll q hq
          obtain ⟨e', he', ee⟩ := lived_ev cs 60 a.w a.p q.1 hd60 q.2 h2
          rw [← ee]
          exact hbest.2 e' he'
        dsimp only
        refine sq (st_set F6 (ev_most2 (P := P) (w := w) (cs := cs) (l := allL a a.s) (m := e.1) hDN np (by omega) (fun d => ⟨rfl, rfl, rfl⟩) ⟨_, hin, hpd⟩ top).ev fun v14 d14 H7 e7 F7 p7 => ?_)
        subst p7
        dsimp only
        refine sq (st_no F7 (et_or (Pa := fun b => b = false) (Pb := fun b => b = false) ((etB (ev_nnotin (P := P) (w := w) (k := hK (x, ts)) (ds := [encC x, encHist ts]) hDN np rfl (ev_tup (eu_c (ev_v rfl) (eu_c (ev_v rfl) eu_nil))) (kd_hK _) (dep_hK _))).imp fun b e => by rw [e, tab_val cs _ _ hin]; rfl) (fun _ => (et (ev_neI (i := (e.1 : Int)) (j := (e.1 : Int)) (ev_v rfl) (ev_v rfl))).imp fun b e => by rw [e]; simp) (fun z => nomatch z) (fun _ b e => e)) fun H8 e8 F8 => ?_)
        dsimp only [tNext]
        refine st_forL (Pl := fun l => ∀ d ∈ l, ∃ q ∈ allL a a.s, d = hD q) (fun ds m env' σ' H' => ∃ x13, env' = [.u, .r (.ref Pn.p), .d (.int (j : Nat)), .d (encH a.h), .d (encR a.r), .d (.tuple [dN a.p, encS a.s]), .d (dN a.rounds), .d (encW a.w), .d (dNs cs), .r (.ref b), .d (encC x), .d (encHist ts), .d (dN e.1), x13, .d (dN e.1)]) F8 ((el_slK (el_listD (P := P) (w := w) hDN np rfl).k eo_none (eo_some (ev_i (i := 12)))).imp fun l ⟨ds, e1, e2⟩ d hd => ?_) (fun ds H9 e9 p9 => ⟨_, rfl⟩) (fun v9 ds m d v env' σ' H9 p9 hd F9 hI hv => ?_) (fun ds env' σ' H9 p9 F9 hI => ?_)
        · rw [e2] at hd
          unfold cutD at hd
          have hd2 := List.mem_of_mem_drop (List.mem_of_mem_take hd)
          rw [e1] at hd2
          obtain ⟨p, hp, rfl⟩ := List.mem_map.mp hd2
          obtain ⟨q, hq, rfl⟩ := tab_mem cs _ p hp
          exact ⟨q, hq, kd_hK q⟩
        · obtain ⟨x13, rfl⟩ := hI
          obtain ⟨q, hq, rfl⟩ := p9 d (List.mem_of_getElem? hd)
          obtain ⟨h1, h2⟩ := ofAll q hq
          obtain ⟨tok, sure⟩ := lived_ok ho hro 60 a.w a.p a.s hd60 hw hs q.1 h1 q.2 h2
          have tl := lived_short 60 a.w a.p q.1 hd60 q.2 h2
          refine gN F9 hv fun F10 => ?_
          refine st_no F10 ((et_not (et (Ev.one (ev_c (args := fun a : AArg => [.d (encH a.h), .d (encS a.s), .d (encHist a.ts)]) ⟨a.h, a.s, q.2⟩ (ea_c (ev_v rfl) (ea_c (ev_ix (ds := [dN a.p, encS a.s]) (ev_v rfl) ev_i rfl) (ea_c (ev_ix (ds := [encC q.1, encHist q.2]) (ev_v rfl) ev_i rfl) ea_nil))) ⟨ho, hs.g, by dsimp only; omega, tok, sure⟩)))).imp fun b ⟨c, e1, e2⟩ => by rw [e2, e1]; rfl) fun H10 e10 F11 => ?_
          exact ⟨_, F11, _, rfl⟩
        · obtain ⟨x13, rfl⟩ := hI
          have F10 := (F9.drop1 13).unbase eX F'.pen (by
            intro x hx ys
            simp only [List.set_cons_succ, List.set_cons_zero, List.mem_cons, List.not_mem_nil, or_false] at hx
            rcases hx with rfl | rfl | rfl | rfl | rfl | rfl | rfl | rfl | rfl | rfl | rfl | rfl | rfl | rfl | rfl <;> exact fun q => nomatch q)
          exact ⟨_, F10, _, _, _, _, _, _, _, _, _, _, _, _, _, _, rfl⟩
    · obtain ⟨x0, x2, x3, x4, x5, x6, x7, x8, x9, x10, x11, x12, x13, x14, rfl⟩ := hI
      dsimp only
      exact st_ret F' (ev_b (b := true)).ev fun v d H3 e3 r3 p3 => by
        subst p3
        obtain rfl := r3.b
        exact k H3 (Ex.after e12 n1 hpen e3)
end
end K22
/-! LZ: the defs that the top leaves, put together. -/
namespace K22
open PySem PySem.Spec L2 LamX PyProof.Rows
/-- a def of the top keeps its place -/
def Dx (K : PySem.W.Frag) (mg : Str → Option Value) (name : Str) (st : Stmt) (ps : List Str) : Prop := ∃ (f : Addr) (fd : FuncData), Df K mg name st f fd ps
theorem dx_of {K : PySem.W.Frag} {h : Heap} {mg : Str → Option Value} {name : Str} {st : Stmt} {ps : List Str} {f : Addr} {oc : Value} {od an : Option Addr} {osl : Array (Option Value)} {kV doc pm cdv ct : Value} (X : K.In h) (G : h.Ns mainGlobals mg)
    (hb : ∀ (kV doc pm : Value) (an : Option Addr) (cdv ct : Value) (us : List Value), us.length = ps.length → bindArgs (PySem.W.fnOf name name (defArgs st) (defBody st) (defScope st) .none kV doc pm an cdv ct) ⟨us, []⟩ = pure (ps.zip us))
    (a : PySem.W.nsIn K mainGlobals name = some (some (.ref f))) (l : K.lookup f = some ⟨oc, od, .func (PySem.W.fnOf name name (defArgs st) (defBody st) (defScope st) .none kV doc pm an cdv ct), osl⟩) (c : PySem.W.codeIn K cdv name = true) (k : PySem.W.keepIn K (.ref f) = true) : Dx K mg name st ps :=
  ⟨f, _, fun_mk l c k, (fun_mk l c k).binds hb, PySem.W.mg_of X G a⟩
theorem Df.uniq {K : PySem.W.Frag} {mg : Str → Option Value} {name : Str} {st : Stmt} {ps : List Str} {f g : Addr} {fd gd : FuncData} (D : Df K mg name st f fd ps) (E : Df K mg name st g gd ps) : f = g ∧ fd = gd := by
  have e : f = g := by
    have z := D.m.symm.trans E.m
    cases z
    rfl
  subst e
  obtain ⟨⟨_, _, _, _, _, _, _, _, _, e1, l1, _⟩, _⟩ := D.F
  obtain ⟨⟨_, _, _, _, _, _, _, _, _, e2, l2, _⟩, _⟩ := E.F
  rw [l1] at l2
  injection l2 with l2
  injection l2 with _ _ l2
  injection l2 with l2
  exact ⟨rfl, l2⟩

theorem bd_asked : ∀ (kV doc pm : Value) (an : Option Addr) (cdv ct : Value) (us : List Value), us.length = (["house", "question", "content"] : List Str).length → bindArgs (PySem.W.fnOf "asked" "asked" (defArgs s_asked) (defBody s_asked) (defScope s_asked) .none kV doc pm an cdv ct) ⟨us, []⟩ = pure ((["house", "question", "content"] : List Str).zip us) := fun _ _ _ _ _ _ us hl => match us, hl with | [_, _, _], _ => rfl
theorem bd_verdict : ∀ (kV doc pm : Value) (an : Option Addr) (cdv ct : Value) (us : List Value), us.length = (["house", "question", "some"] : List Str).length → bindArgs (PySem.W.fnOf "verdict" "verdict" (defArgs s_verdict) (defBody s_verdict) (defScope s_verdict) .none kV doc pm an cdv ct) ⟨us, []⟩ = pure ((["house", "question", "some"] : List Str).zip us) := fun _ _ _ _ _ _ us hl => match us, hl with | [_, _, _], _ => rfl
theorem bd_with_value : ∀ (kV doc pm : Value) (an : Option Addr) (cdv ct : Value) (us : List Value), us.length = (["content", "cell", "value"] : List Str).length → bindArgs (PySem.W.fnOf "with_value" "with_value" (defArgs s_with_value) (defBody s_with_value) (defScope s_with_value) .none kV doc pm an cdv ct) ⟨us, []⟩ = pure ((["content", "cell", "value"] : List Str).zip us) := fun _ _ _ _ _ _ us hl => match us, hl with | [_, _, _], _ => rfl
theorem bd_behind_step : ∀ (kV doc pm : Value) (an : Option Addr) (cdv ct : Value) (us : List Value), us.length = (["sizes", "step", "content"] : List Str).length → bindArgs (PySem.W.fnOf "behind_step" "behind_step" (defArgs s_behind_step) (defBody s_behind_step) (defScope s_behind_step) .none kV doc pm an cdv ct) ⟨us, []⟩ = pure ((["sizes", "step", "content"] : List Str).zip us) := fun _ _ _ _ _ _ us hl => match us, hl with | [_, _, _], _ => rfl
theorem bd_carried : ∀ (kV doc pm : Value) (an : Option Addr) (cdv ct : Value) (us : List Value), us.length = (["house", "deed", "content"] : List Str).length → bindArgs (PySem.W.fnOf "carried" "carried" (defArgs s_carried) (defBody s_carried) (defScope s_carried) .none kV doc pm an cdv ct) ⟨us, []⟩ = pure ((["house", "deed", "content"] : List Str).zip us) := fun _ _ _ _ _ _ us hl => match us, hl with | [_, _, _], _ => rfl
theorem bd_as_set : ∀ (kV doc pm : Value) (an : Option Addr) (cdv ct : Value) (us : List Value), us.length = (["found"] : List Str).length → bindArgs (PySem.W.fnOf "as_set" "as_set" (defArgs s_as_set) (defBody s_as_set) (defScope s_as_set) .none kV doc pm an cdv ct) ⟨us, []⟩ = pure ((["found"] : List Str).zip us) := fun _ _ _ _ _ _ us hl => match us, hl with | [_], _ => rfl
theorem bd_image : ∀ (kV doc pm : Value) (an : Option Addr) (cdv ct : Value) (us : List Value), us.length = (["house", "deed", "some"] : List Str).length → bindArgs (PySem.W.fnOf "image" "image" (defArgs s_image) (defBody s_image) (defScope s_image) .none kV doc pm an cdv ct) ⟨us, []⟩ = pure ((["house", "deed", "some"] : List Str).zip us) := fun _ _ _ _ _ _ us hl => match us, hl with | [_, _, _], _ => rfl
theorem bd_maybe : ∀ (kV doc pm : Value) (an : Option Addr) (cdv ct : Value) (us : List Value), us.length = (["house", "deed", "some"] : List Str).length → bindArgs (PySem.W.fnOf "maybe" "maybe" (defArgs s_maybe) (defBody s_maybe) (defScope s_maybe) .none kV doc pm an cdv ct) ⟨us, []⟩ = pure ((["house", "deed", "some"] : List Str).zip us) := fun _ _ _ _ _ _ us hl => match us, hl with | [_, _, _], _ => rfl
theorem bd_stirred : ∀ (kV doc pm : Value) (an : Option Addr) (cdv ct : Value) (us : List Value), us.length = (["house", "cell", "some"] : List Str).length → bindArgs (PySem.W.fnOf "stirred" "stirred" (defArgs s_stirred) (defBody s_stirred) (defScope s_stirred) .none kV doc pm an cdv ct) ⟨us, []⟩ = pure ((["house", "cell", "some"] : List Str).zip us) := fun _ _ _ _ _ _ us hl => match us, hl with | [_, _, _], _ => rfl
theorem bd_seen_parts : ∀ (kV doc pm : Value) (an : Option Addr) (cdv ct : Value) (us : List Value), us.length = (["house", "some", "cell"] : List Str).length → bindArgs (PySem.W.fnOf "seen_parts" "seen_parts" (defArgs s_seen_parts) (defBody s_seen_parts) (defScope s_seen_parts) .none kV doc pm an cdv ct) ⟨us, []⟩ = pure ((["house", "some", "cell"] : List Str).zip us) := fun _ _ _ _ _ _ us hl => match us, hl with | [_, _, _], _ => rfl
theorem bd_left_behind : ∀ (kV doc pm : Value) (an : Option Addr) (cdv ct : Value) (us : List Value), us.length = (["house", "some", "item"] : List Str).length → bindArgs (PySem.W.fnOf "left_behind" "left_behind" (defArgs s_left_behind) (defBody s_left_behind) (defScope s_left_behind) .none kV doc pm an cdv ct) ⟨us, []⟩ = pure ((["house", "some", "item"] : List Str).zip us) := fun _ _ _ _ _ _ us hl => match us, hl with | [_, _, _], _ => rfl
theorem bd_known_after : ∀ (kV doc pm : Value) (an : Option Addr) (cdv ct : Value) (us : List Value), us.length = (["house", "some", "items"] : List Str).length → bindArgs (PySem.W.fnOf "known_after" "known_after" (defArgs s_known_after) (defBody s_known_after) (defScope s_known_after) .none kV doc pm an cdv ct) ⟨us, []⟩ = pure ((["house", "some", "items"] : List Str).zip us) := fun _ _ _ _ _ _ us hl => match us, hl with | [_, _, _], _ => rfl
theorem bd_told_ways : ∀ (kV doc pm : Value) (an : Option Addr) (cdv ct : Value) (us : List Value), us.length = (["house", "content", "item"] : List Str).length → bindArgs (PySem.W.fnOf "told_ways" "told_ways" (defArgs s_told_ways) (defBody s_told_ways) (defScope s_told_ways) .none kV doc pm an cdv ct) ⟨us, []⟩ = pure ((["house", "content", "item"] : List Str).zip us) := fun _ _ _ _ _ _ us hl => match us, hl with | [_, _, _], _ => rfl
theorem bd_go_on : ∀ (kV doc pm : Value) (an : Option Addr) (cdv ct : Value) (us : List Value), us.length = (["house", "route", "place", "some"] : List Str).length → bindArgs (PySem.W.fnOf "go_on" "go_on" (defArgs s_go_on) (defBody s_go_on) (defScope s_go_on) .none kV doc pm an cdv ct) ⟨us, []⟩ = pure ((["house", "route", "place", "some"] : List Str).zip us) := fun _ _ _ _ _ _ us hl => match us, hl with | [_, _, _, _], _ => rfl
theorem bd_one_true : ∀ (kV doc pm : Value) (an : Option Addr) (cdv ct : Value) (us : List Value), us.length = (["house", "some", "items"] : List Str).length → bindArgs (PySem.W.fnOf "one_true" "one_true" (defArgs s_one_true) (defBody s_one_true) (defScope s_one_true) .none kV doc pm an cdv ct) ⟨us, []⟩ = pure ((["house", "some", "items"] : List Str).zip us) := fun _ _ _ _ _ _ us hl => match us, hl with | [_, _, _], _ => rfl
theorem bd_dearest : ∀ (kV doc pm : Value) (an : Option Addr) (cdv ct : Value) (us : List Value), us.length = (["house", "prices", "route", "place", "some", "rounds", "way"] : List Str).length → bindArgs (PySem.W.fnOf "dearest" "dearest" (defArgs s_dearest) (defBody s_dearest) (defScope s_dearest) .none kV doc pm an cdv ct) ⟨us, []⟩ = pure ((["house", "prices", "route", "place", "some", "rounds", "way"] : List Str).zip us) := fun _ _ _ _ _ _ us hl => match us, hl with | [_, _, _, _, _, _, _], _ => rfl
theorem bd__law_fresh : ∀ (kV doc pm : Value) (an : Option Addr) (cdv ct : Value) (us : List Value), us.length = (["_law_pen_here"] : List Str).length → bindArgs (PySem.W.fnOf "_law_fresh" "_law_fresh" (defArgs s__law_fresh) (defBody s__law_fresh) (defScope s__law_fresh) .none kV doc pm an cdv ct) ⟨us, []⟩ = pure ((["_law_pen_here"] : List Str).zip us) := fun _ _ _ _ _ _ us hl => match us, hl with | [_], _ => rfl
theorem bd__law_draw : ∀ (kV doc pm : Value) (an : Option Addr) (cdv ct : Value) (us : List Value), us.length = (["_law_pen_here", "_law_many"] : List Str).length → bindArgs (PySem.W.fnOf "_law_draw" "_law_draw" (defArgs s__law_draw) (defBody s__law_draw) (defScope s__law_draw) .none kV doc pm an cdv ct) ⟨us, []⟩ = pure ((["_law_pen_here", "_law_many"] : List Str).zip us) := fun _ _ _ _ _ _ us hl => match us, hl with | [_, _], _ => rfl
theorem bd__law_one_of : ∀ (kV doc pm : Value) (an : Option Addr) (cdv ct : Value) (us : List Value), us.length = (["_law_pen_here", "_law_rows"] : List Str).length → bindArgs (PySem.W.fnOf "_law_one_of" "_law_one_of" (defArgs s__law_one_of) (defBody s__law_one_of) (defScope s__law_one_of) .none kV doc pm an cdv ct) ⟨us, []⟩ = pure ((["_law_pen_here", "_law_rows"] : List Str).zip us) := fun _ _ _ _ _ _ us hl => match us, hl with | [_, _], _ => rfl
theorem bd__law_pen : ∀ (kV doc pm : Value) (an : Option Addr) (cdv ct : Value) (us : List Value), us.length = (["_law_script"] : List Str).length → bindArgs (PySem.W.fnOf "_law_pen" "_law_pen" (defArgs s__law_pen) (defBody s__law_pen) (defScope s__law_pen) .none kV doc pm an cdv ct) ⟨us, []⟩ = pure ((["_law_script"] : List Str).zip us) := fun _ _ _ _ _ _ us hl => match us, hl with | [_], _ => rfl
theorem bd__law_step_drawn : ∀ (kV doc pm : Value) (an : Option Addr) (cdv ct : Value) (us : List Value), us.length = (["_law_pen_here", "_law_sizes", "_law_whens"] : List Str).length → bindArgs (PySem.W.fnOf "_law_step_drawn" "_law_step_drawn" (defArgs s__law_step_drawn) (defBody s__law_step_drawn) (defScope s__law_step_drawn) .none kV doc pm an cdv ct) ⟨us, []⟩ = pure ((["_law_pen_here", "_law_sizes", "_law_whens"] : List Str).zip us) := fun _ _ _ _ _ _ us hl => match us, hl with | [_, _, _], _ => rfl
theorem bd__law_nodes_drawn : ∀ (kV doc pm : Value) (an : Option Addr) (cdv ct : Value) (us : List Value), us.length = (["_law_pen_here", "_law_sizes", "_law_nodes"] : List Str).length → bindArgs (PySem.W.fnOf "_law_nodes_drawn" "_law_nodes_drawn" (defArgs s__law_nodes_drawn) (defBody s__law_nodes_drawn) (defScope s__law_nodes_drawn) .none kV doc pm an cdv ct) ⟨us, []⟩ = pure ((["_law_pen_here", "_law_sizes", "_law_nodes"] : List Str).zip us) := fun _ _ _ _ _ _ us hl => match us, hl with | [_, _, _], _ => rfl
theorem bd__law_house : ∀ (kV doc pm : Value) (an : Option Addr) (cdv ct : Value) (us : List Value), us.length = (["_law_pen_here", "_law_sizes", "_law_nodes", "_law_deeds"] : List Str).length → bindArgs (PySem.W.fnOf "_law_house" "_law_house" (defArgs s__law_house) (defBody s__law_house) (defScope s__law_house) .none kV doc pm an cdv ct) ⟨us, []⟩ = pure ((["_law_pen_here", "_law_sizes", "_law_nodes", "_law_deeds"] : List Str).zip us) := fun _ _ _ _ _ _ us hl => match us, hl with | [_, _, _, _], _ => rfl
theorem bd__law_small_house : ∀ (kV doc pm : Value) (an : Option Addr) (cdv ct : Value) (us : List Value), us.length = (["_law_pen_here"] : List Str).length → bindArgs (PySem.W.fnOf "_law_small_house" "_law_small_house" (defArgs s__law_small_house) (defBody s__law_small_house) (defScope s__law_small_house) .none kV doc pm an cdv ct) ⟨us, []⟩ = pure ((["_law_pen_here"] : List Str).zip us) := fun _ _ _ _ _ _ us hl => match us, hl with | [_], _ => rfl
theorem bd__law_three_house : ∀ (kV doc pm : Value) (an : Option Addr) (cdv ct : Value) (us : List Value), us.length = (["_law_pen_here"] : List Str).length → bindArgs (PySem.W.fnOf "_law_three_house" "_law_three_house" (defArgs s__law_three_house) (defBody s__law_three_house) (defScope s__law_three_house) .none kV doc pm an cdv ct) ⟨us, []⟩ = pure ((["_law_pen_here"] : List Str).zip us) := fun _ _ _ _ _ _ us hl => match us, hl with | [_], _ => rfl
theorem bd__law_unlike_house : ∀ (kV doc pm : Value) (an : Option Addr) (cdv ct : Value) (us : List Value), us.length = (["_law_pen_here"] : List Str).length → bindArgs (PySem.W.fnOf "_law_unlike_house" "_law_unlike_house" (defArgs s__law_unlike_house) (defBody s__law_unlike_house) (defScope s__law_unlike_house) .none kV doc pm an cdv ct) ⟨us, []⟩ = pure ((["_law_pen_here"] : List Str).zip us) := fun _ _ _ _ _ _ us hl => match us, hl with | [_], _ => rfl
theorem bd__law_prices : ∀ (kV doc pm : Value) (an : Option Addr) (cdv ct : Value) (us : List Value), us.length = (["_law_pen_here"] : List Str).length → bindArgs (PySem.W.fnOf "_law_prices" "_law_prices" (defArgs s__law_prices) (defBody s__law_prices) (defScope s__law_prices) .none kV doc pm an cdv ct) ⟨us, []⟩ = pure ((["_law_pen_here"] : List Str).zip us) := fun _ _ _ _ _ _ us hl => match us, hl with | [_], _ => rfl
theorem bd__law_contents : ∀ (kV doc pm : Value) (an : Option Addr) (cdv ct : Value) (us : List Value), us.length = (["_law_house_here"] : List Str).length → bindArgs (PySem.W.fnOf "_law_contents" "_law_contents" (defArgs s__law_contents) (defBody s__law_contents) (defScope s__law_contents) .none kV doc pm an cdv ct) ⟨us, []⟩ = pure ((["_law_house_here"] : List Str).zip us) := fun _ _ _ _ _ _ us hl => match us, hl with | [_], _ => rfl
theorem bd__law_put : ∀ (kV doc pm : Value) (an : Option Addr) (cdv ct : Value) (us : List Value), us.length = (["_law_content", "_law_cell", "_law_value"] : List Str).length → bindArgs (PySem.W.fnOf "_law_put" "_law_put" (defArgs s__law_put) (defBody s__law_put) (defScope s__law_put) .none kV doc pm an cdv ct) ⟨us, []⟩ = pure ((["_law_content", "_law_cell", "_law_value"] : List Str).zip us) := fun _ _ _ _ _ _ us hl => match us, hl with | [_, _, _], _ => rfl
theorem bd__law_done : ∀ (kV doc pm : Value) (an : Option Addr) (cdv ct : Value) (us : List Value), us.length = (["_law_house_here", "_law_deed", "_law_content"] : List Str).length → bindArgs (PySem.W.fnOf "_law_done" "_law_done" (defArgs s__law_done) (defBody s__law_done) (defScope s__law_done) .none kV doc pm an cdv ct) ⟨us, []⟩ = pure ((["_law_house_here", "_law_deed", "_law_content"] : List Str).zip us) := fun _ _ _ _ _ _ us hl => match us, hl with | [_, _, _], _ => rfl
theorem bd__law_answered : ∀ (kV doc pm : Value) (an : Option Addr) (cdv ct : Value) (us : List Value), us.length = (["_law_house_here", "_law_question", "_law_content"] : List Str).length → bindArgs (PySem.W.fnOf "_law_answered" "_law_answered" (defArgs s__law_answered) (defBody s__law_answered) (defScope s__law_answered) .none kV doc pm an cdv ct) ⟨us, []⟩ = pure ((["_law_house_here", "_law_question", "_law_content"] : List Str).zip us) := fun _ _ _ _ _ _ us hl => match us, hl with | [_, _, _], _ => rfl
theorem bd__law_sure : ∀ (kV doc pm : Value) (an : Option Addr) (cdv ct : Value) (us : List Value), us.length = (["_law_house_here", "_law_question", "_law_some"] : List Str).length → bindArgs (PySem.W.fnOf "_law_sure" "_law_sure" (defArgs s__law_sure) (defBody s__law_sure) (defScope s__law_sure) .none kV doc pm an cdv ct) ⟨us, []⟩ = pure ((["_law_house_here", "_law_question", "_law_some"] : List Str).zip us) := fun _ _ _ _ _ _ us hl => match us, hl with | [_, _, _], _ => rfl
theorem bd__law_set : ∀ (kV doc pm : Value) (an : Option Addr) (cdv ct : Value) (us : List Value), us.length = (["_law_pen_here", "_law_house_here"] : List Str).length → bindArgs (PySem.W.fnOf "_law_set" "_law_set" (defArgs s__law_set) (defBody s__law_set) (defScope s__law_set) .none kV doc pm an cdv ct) ⟨us, []⟩ = pure ((["_law_pen_here", "_law_house_here"] : List Str).zip us) := fun _ _ _ _ _ _ us hl => match us, hl with | [_, _], _ => rfl
theorem bd__law_item : ∀ (kV doc pm : Value) (an : Option Addr) (cdv ct : Value) (us : List Value), us.length = (["_law_pen_here", "_law_house_here"] : List Str).length → bindArgs (PySem.W.fnOf "_law_item" "_law_item" (defArgs s__law_item) (defBody s__law_item) (defScope s__law_item) .none kV doc pm an cdv ct) ⟨us, []⟩ = pure ((["_law_pen_here", "_law_house_here"] : List Str).zip us) := fun _ _ _ _ _ _ us hl => match us, hl with | [_, _], _ => rfl
theorem bd__law_route : ∀ (kV doc pm : Value) (an : Option Addr) (cdv ct : Value) (us : List Value), us.length = (["_law_pen_here", "_law_house_here", "_law_most"] : List Str).length → bindArgs (PySem.W.fnOf "_law_route" "_law_route" (defArgs s__law_route) (defBody s__law_route) (defScope s__law_route) .none kV doc pm an cdv ct) ⟨us, []⟩ = pure ((["_law_pen_here", "_law_house_here", "_law_most"] : List Str).zip us) := fun _ _ _ _ _ _ us hl => match us, hl with | [_, _, _], _ => rfl
theorem bd__law_behind : ∀ (kV doc pm : Value) (an : Option Addr) (cdv ct : Value) (us : List Value), us.length = (["_law_house_here", "_law_item_here", "_law_some"] : List Str).length → bindArgs (PySem.W.fnOf "_law_behind" "_law_behind" (defArgs s__law_behind) (defBody s__law_behind) (defScope s__law_behind) .none kV doc pm an cdv ct) ⟨us, []⟩ = pure ((["_law_house_here", "_law_item_here", "_law_some"] : List Str).zip us) := fun _ _ _ _ _ _ us hl => match us, hl with | [_, _, _], _ => rfl
theorem bd__law_parted : ∀ (kV doc pm : Value) (an : Option Addr) (cdv ct : Value) (us : List Value), us.length = (["_law_house_here", "_law_some", "_law_cell"] : List Str).length → bindArgs (PySem.W.fnOf "_law_parted" "_law_parted" (defArgs s__law_parted) (defBody s__law_parted) (defScope s__law_parted) .none kV doc pm an cdv ct) ⟨us, []⟩ = pure ((["_law_house_here", "_law_some", "_law_cell"] : List Str).zip us) := fun _ _ _ _ _ _ us hl => match us, hl with | [_, _, _], _ => rfl
theorem bd__law_nexts : ∀ (kV doc pm : Value) (an : Option Addr) (cdv ct : Value) (us : List Value), us.length = (["_law_house_here", "_law_route_here", "_law_place", "_law_some"] : List Str).length → bindArgs (PySem.W.fnOf "_law_nexts" "_law_nexts" (defArgs s__law_nexts) (defBody s__law_nexts) (defScope s__law_nexts) .none kV doc pm an cdv ct) ⟨us, []⟩ = pure ((["_law_house_here", "_law_route_here", "_law_place", "_law_some"] : List Str).zip us) := fun _ _ _ _ _ _ us hl => match us, hl with | [_, _, _, _], _ => rfl
theorem bd__law_paid : ∀ (kV doc pm : Value) (an : Option Addr) (cdv ct : Value) (us : List Value), us.length = (["_law_costs", "_law_history"] : List Str).length → bindArgs (PySem.W.fnOf "_law_paid" "_law_paid" (defArgs s__law_paid) (defBody s__law_paid) (defScope s__law_paid) .none kV doc pm an cdv ct) ⟨us, []⟩ = pure ((["_law_costs", "_law_history"] : List Str).zip us) := fun _ _ _ _ _ _ us hl => match us, hl with | [_, _], _ => rfl
theorem bd__law_happens : ∀ (kV doc pm : Value) (an : Option Addr) (cdv ct : Value) (us : List Value), us.length = (["_law_house_here", "_law_content", "_law_item_here"] : List Str).length → bindArgs (PySem.W.fnOf "_law_happens" "_law_happens" (defArgs s__law_happens) (defBody s__law_happens) (defScope s__law_happens) .none kV doc pm an cdv ct) ⟨us, []⟩ = pure ((["_law_house_here", "_law_content", "_law_item_here"] : List Str).zip us) := fun _ _ _ _ _ _ us hl => match us, hl with | [_, _, _], _ => rfl
theorem bd__law_all_lived : ∀ (kV doc pm : Value) (an : Option Addr) (cdv ct : Value) (us : List Value), us.length = (["_law_house_here", "_law_route_here", "_law_stand", "_law_way_here", "_law_content"] : List Str).length → bindArgs (PySem.W.fnOf "_law_all_lived" "_law_all_lived" (defArgs s__law_all_lived) (defBody s__law_all_lived) (defScope s__law_all_lived) .none kV doc pm an cdv ct) ⟨us, []⟩ = pure ((["_law_house_here", "_law_route_here", "_law_stand", "_law_way_here", "_law_content"] : List Str).zip us) := fun _ _ _ _ _ _ us hl => match us, hl with | [_, _, _, _, _], _ => rfl
theorem bd__law_way : ∀ (kV doc pm : Value) (an : Option Addr) (cdv ct : Value) (us : List Value), us.length = (["_law_pen_here", "_law_house_here", "_law_route_here", "_law_stand", "_law_rounds", "_law_looks"] : List Str).length → bindArgs (PySem.W.fnOf "_law_way" "_law_way" (defArgs s__law_way) (defBody s__law_way) (defScope s__law_way) .none kV doc pm an cdv ct) ⟨us, []⟩ = pure ((["_law_pen_here", "_law_house_here", "_law_route_here", "_law_stand", "_law_rounds", "_law_looks"] : List Str).zip us) := fun _ _ _ _ _ _ us hl => match us, hl with | [_, _, _, _, _, _], _ => rfl
theorem bd__law_some_ways : ∀ (kV doc pm : Value) (an : Option Addr) (cdv ct : Value) (us : List Value), us.length = (["_law_pen_here", "_law_most"] : List Str).length → bindArgs (PySem.W.fnOf "_law_some_ways" "_law_some_ways" (defArgs s__law_some_ways) (defBody s__law_some_ways) (defScope s__law_some_ways) .none kV doc pm an cdv ct) ⟨us, []⟩ = pure ((["_law_pen_here", "_law_most"] : List Str).zip us) := fun _ _ _ _ _ _ us hl => match us, hl with | [_, _], _ => rfl
theorem bd__law_sure_at_asks : ∀ (kV doc pm : Value) (an : Option Addr) (cdv ct : Value) (us : List Value), us.length = (["_law_house_here", "_law_some", "_law_history"] : List Str).length → bindArgs (PySem.W.fnOf "_law_sure_at_asks" "_law_sure_at_asks" (defArgs s__law_sure_at_asks) (defBody s__law_sure_at_asks) (defScope s__law_sure_at_asks) .none kV doc pm an cdv ct) ⟨us, []⟩ = pure ((["_law_house_here", "_law_some", "_law_history"] : List Str).zip us) := fun _ _ _ _ _ _ us hl => match us, hl with | [_, _, _], _ => rfl
theorem bd_law : ∀ (kV doc pm : Value) (an : Option Addr) (cdv ct : Value) (us : List Value), us.length = (["_law_script"] : List Str).length → bindArgs (PySem.W.fnOf "law" "law" (defArgs s_law) (defBody s_law) (defScope s_law) .none kV doc pm an cdv ct) ⟨us, []⟩ = pure ((["_law_script"] : List Str).zip us) := fun _ _ _ _ _ _ us hl => match us, hl with | [_], _ => rfl
/-- all that the top leaves, but the law -/
structure AllD (K : PySem.W.Frag) (mg : Str → Option Value) : Prop where
  d_asked : Dx K mg "asked" s_asked ["house", "question", "content"]
  d_verdict : Dx K mg "verdict" s_verdict ["house", "question", "some"]
  d_with_value : Dx K mg "with_value" s_with_value ["content", "cell", "value"]
  d_behind_step : Dx K mg "behind_step" s_behind_step ["sizes", "step", "content"]
  d_carried : Dx K mg "carried" s_carried ["house", "deed", "content"]
  d_as_set : Dx K mg "as_set" s_as_set ["found"]
  d_image : Dx K mg "image" s_image ["house", "deed", "some"]
  d_maybe : Dx K mg "maybe" s_maybe ["house", "deed", "some"]
  d_stirred : Dx K mg "stirred" s_stirred ["house", "cell", "some"]
  d_seen_parts : Dx K mg "seen_parts" s_seen_parts ["house", "some", "cell"]
  d_left_behind : Dx K mg "left_behind" s_left_behind ["house", "some", "item"]
  d_known_after : Dx K mg "known_after" s_known_after ["house", "some", "items"]
  d_told_ways : Dx K mg "told_ways" s_told_ways ["house", "content", "item"]
  d_go_on : Dx K mg "go_on" s_go_on ["house", "route", "place", "some"]
  d_one_true : Dx K mg "one_true" s_one_true ["house", "some", "items"]
  d_dearest : Dx K mg "dearest" s_dearest ["house", "prices", "route", "place", "some", "rounds", "way"]
  d_law_fresh : Dx K mg "_law_fresh" s__law_fresh ["_law_pen_here"]
  d_law_draw : Dx K mg "_law_draw" s__law_draw ["_law_pen_here", "_law_many"]
  d_law_one_of : Dx K mg "_law_one_of" s__law_one_of ["_law_pen_here", "_law_rows"]
  d_law_pen : Dx K mg "_law_pen" s__law_pen ["_law_script"]
  d_law_step_drawn : Dx K mg "_law_step_drawn" s__law_step_drawn ["_law_pen_here", "_law_sizes", "_law_whens"]
  d_law_nodes_drawn : Dx K mg "_law_nodes_drawn" s__law_nodes_drawn ["_law_pen_here", "_law_sizes", "_law_nodes"]
  d_law_house : Dx K mg "_law_house" s__law_house ["_law_pen_here", "_law_sizes", "_law_nodes", "_law_deeds"]
  d_law_small_house : Dx K mg "_law_small_house" s__law_small_house ["_law_pen_here"]
  d_law_three_house : Dx K mg "_law_three_house" s__law_three_house ["_law_pen_here"]
  d_law_unlike_house : Dx K mg "_law_unlike_house" s__law_unlike_house ["_law_pen_here"]
  d_law_prices : Dx K mg "_law_prices" s__law_prices ["_law_pen_here"]
  d_law_contents : Dx K mg "_law_contents" s__law_contents ["_law_house_here"]
  d_law_put : Dx K mg "_law_put" s__law_put ["_law_content", "_law_cell", "_law_value"]
  d_law_done : Dx K mg "_law_done" s__law_done ["_law_house_here", "_law_deed", "_law_content"]
  d_law_answered : Dx K mg "_law_answered" s__law_answered ["_law_house_here", "_law_question", "_law_content"]
  d_law_sure : Dx K mg "_law_sure" s__law_sure ["_law_house_here", "_law_question", "_law_some"]
  d_law_set : Dx K mg "_law_set" s__law_set ["_law_pen_here", "_law_house_here"]
  d_law_item : Dx K mg "_law_item" s__law_item ["_law_pen_here", "_law_house_here"]
  d_law_route : Dx K mg "_law_route" s__law_route ["_law_pen_here", "_law_house_here", "_law_most"]
  d_law_behind : Dx K mg "_law_behind" s__law_behind ["_law_house_here", "_law_item_here", "_law_some"]
  d_law_parted : Dx K mg "_law_parted" s__law_parted ["_law_house_here", "_law_some", "_law_cell"]
  d_law_nexts : Dx K mg "_law_nexts" s__law_nexts ["_law_house_here", "_law_route_here", "_law_place", "_law_some"]
  d_law_paid : Dx K mg "_law_paid" s__law_paid ["_law_costs", "_law_history"]
  d_law_happens : Dx K mg "_law_happens" s__law_happens ["_law_house_here", "_law_content", "_law_item_here"]
  d_law_all_lived : Dx K mg "_law_all_lived" s__law_all_lived ["_law_house_here", "_law_route_here", "_law_stand", "_law_way_here", "_law_content"]
  d_law_way : Dx K mg "_law_way" s__law_way ["_law_pen_here", "_law_house_here", "_law_route_here", "_law_stand", "_law_rounds", "_law_looks"]
  d_law_some_ways : Dx K mg "_law_some_ways" s__law_some_ways ["_law_pen_here", "_law_most"]
  d_law_sure_at_asks : Dx K mg "_law_sure_at_asks" s__law_sure_at_asks ["_law_house_here", "_law_some", "_law_history"]
abbrev lamQ : Str := ("Walk.most_paid" : Str) ++ ".<locals>." ++ "<lambda>"
theorem law_ok {P : Program} {w : World} {K : PySem.W.Frag} {mg : Str → Option Value} {base : Heap} {C fI fM c Pt f : Addr} {fdI fdM fd : FuncData} (B : Bi mg) (A : AllD K mg) (Wc : WalkC K mg C fI fM fdI fdM) (FI : Fun K "__init__" "Walk.__init__" s_Walk___init__ fI fdI) (FM : FunL K "most_paid" "Walk.most_paid" s_Walk_most_paid fM fdM c) (TB : TabB base mg c Pt) (D : Df K mg "law" s_law f fd ["_law_script"]) :
    FnOk P w K mg base CX0 114 f fd ["_law_script"] (spLaw K [(Pt, lamQ)]) := by
  obtain ⟨f_asked, fd_asked, D_asked⟩ := A.d_asked
  have c_asked := ok_asked (P := P) (w := w) (base := base) (T := [(Pt, lamQ)]) D_asked 
  obtain ⟨f_verdict, fd_verdict, D_verdict⟩ := A.d_verdict
  have c_verdict := ok_verdict (P := P) (w := w) (base := base) (T := [(Pt, lamQ)]) D_verdict c_asked
  obtain ⟨f_with_value, fd_with_value, D_with_value⟩ := A.d_with_value
  have c_with_value := ok_with (P := P) (w := w) (base := base) (T := [(Pt, lamQ)]) D_with_value 
  obtain ⟨f_behind_step, fd_behind_step, D_behind_step⟩ := A.d_behind_step
  have c_behind_step : Cal P w K mg base "behind_step" s_behind_step ["sizes", "step", "content"] 6 (spStep [(Pt, lamQ)] 4) := ⟨_, _, D_behind_step, ok_step (P := P) (w := w) (base := base) (T := [(Pt, lamQ)]) D_behind_step c_with_value 4⟩
  obtain ⟨f_carried, fd_carried, D_carried⟩ := A.d_carried
  have c_carried := ok_carried (P := P) (w := w) (base := base) (T := [(Pt, lamQ)]) D_carried c_behind_step
  obtain ⟨f_as_set, fd_as_set, D_as_set⟩ := A.d_as_set
  have c_as_set := ok_asset (P := P) (w := w) (base := base) (T := [(Pt, lamQ)]) B D_as_set 
  obtain ⟨f_image, fd_image, D_image⟩ := A.d_image
  have c_image := ok_image (P := P) (w := w) (base := base) (T := [(Pt, lamQ)]) D_image c_carried c_as_set
  obtain ⟨f_maybe, fd_maybe, D_maybe⟩ := A.d_maybe
  have c_maybe := ok_maybe (P := P) (w := w) (base := base) (T := [(Pt, lamQ)]) D_maybe c_image c_as_set
  obtain ⟨f_stirred, fd_stirred, D_stirred⟩ := A.d_stirred
  have c_stirred := ok_stirred (P := P) (w := w) (base := base) (T := [(Pt, lamQ)]) B D_stirred c_with_value c_as_set
  obtain ⟨f_seen_parts, fd_seen_parts, D_seen_parts⟩ := A.d_seen_parts
  have c_seen_parts := ok_parts (P := P) (w := w) (base := base) (T := [(Pt, lamQ)]) B D_seen_parts 
  obtain ⟨f_left_behind, fd_left_behind, D_left_behind⟩ := A.d_left_behind
  have c_left_behind := ok_left (P := P) (w := w) (base := base) (T := [(Pt, lamQ)]) B D_left_behind c_image c_maybe c_stirred
  obtain ⟨f_known_after, fd_known_after, D_known_after⟩ := A.d_known_after
  have c_known_after := ok_known (P := P) (w := w) (base := base) (T := [(Pt, lamQ)]) D_known_after c_left_behind
  obtain ⟨f_told_ways, fd_told_ways, D_told_ways⟩ := A.d_told_ways
  have c_told_ways := ok_told (P := P) (w := w) (base := base) (T := [(Pt, lamQ)]) B D_told_ways c_carried c_with_value c_asked
  obtain ⟨f_go_on, fd_go_on, D_go_on⟩ := A.d_go_on
  have c_go_on := ok_goon (P := P) (w := w) (base := base) (T := [(Pt, lamQ)]) B D_go_on c_verdict c_left_behind
  obtain ⟨f_one_true, fd_one_true, D_one_true⟩ := A.d_one_true
  have c_one_true := ok_one (P := P) (w := w) (base := base) (T := [(Pt, lamQ)]) B D_one_true c_as_set c_told_ways
  have g_most := ok_most (P := P) (w := w) (base := base) (T := [(Pt, lamQ)]) B Wc FM TB (List.mem_singleton.mpr rfl) (fun p hp _ => by rw [List.mem_singleton.mp hp]) c_seen_parts c_go_on 100 (by decide)
  have g_init := ok_init (P := P) (w := w) (base := base) Wc FI
  obtain ⟨f_dearest, fd_dearest, D_dearest⟩ := A.d_dearest
  have c_dearest := ok_dearest (P := P) (w := w) (base := base) (T := [(Pt, lamQ)]) Wc D_dearest g_init g_most c_one_true
  obtain ⟨f_law_fresh, fd_law_fresh, D_law_fresh⟩ := A.d_law_fresh
  have c_law_fresh := ok_fresh (P := P) (w := w) (base := base) (T := [(Pt, lamQ)]) B D_law_fresh 
  obtain ⟨f_law_draw, fd_law_draw, D_law_draw⟩ := A.d_law_draw
  have c_law_draw := ok_draw (P := P) (w := w) (base := base) (T := [(Pt, lamQ)]) B D_law_draw c_law_fresh
  obtain ⟨f_law_one_of, fd_law_one_of, D_law_one_of⟩ := A.d_law_one_of
  have c_law_one_of := ok_oneOf (P := P) (w := w) (base := base) (T := [(Pt, lamQ)]) B D_law_one_of c_law_draw
  obtain ⟨f_law_pen, fd_law_pen, D_law_pen⟩ := A.d_law_pen
  have c_law_pen := ok_pen (P := P) (w := w) (base := base) (T := [(Pt, lamQ)]) B D_law_pen 
  obtain ⟨f_law_step_drawn, fd_law_step_drawn, D_law_step_drawn⟩ := A.d_law_step_drawn
  have c_law_step_drawn : Cal P w K mg base "_law_step_drawn" s__law_step_drawn ["_law_pen_here", "_law_sizes", "_law_whens"] 8 (spDrawn [(Pt, lamQ)] 4) := ⟨_, _, D_law_step_drawn, ok_drawn (P := P) (w := w) (base := base) (T := [(Pt, lamQ)]) B D_law_step_drawn c_law_draw c_law_one_of 4⟩
  obtain ⟨f_law_nodes_drawn, fd_law_nodes_drawn, D_law_nodes_drawn⟩ := A.d_law_nodes_drawn
  have c_law_nodes_drawn := ok_nodes (P := P) (w := w) (base := base) (T := [(Pt, lamQ)]) B D_law_nodes_drawn c_law_draw c_law_one_of
  obtain ⟨f_law_house, fd_law_house, D_law_house⟩ := A.d_law_house
  have c_law_house := ok_house (P := P) (w := w) (base := base) (T := [(Pt, lamQ)]) B D_law_house c_law_draw c_law_step_drawn c_law_nodes_drawn
  obtain ⟨f_law_small_house, fd_law_small_house, D_law_small_house⟩ := A.d_law_small_house
  have c_law_small_house := ok_small (P := P) (w := w) (base := base) (T := [(Pt, lamQ)]) B D_law_small_house c_law_draw c_law_one_of c_law_house
  obtain ⟨f_law_three_house, fd_law_three_house, D_law_three_house⟩ := A.d_law_three_house
  have c_law_three_house := ok_three (P := P) (w := w) (base := base) (T := [(Pt, lamQ)]) D_law_three_house c_law_house
  obtain ⟨f_law_unlike_house, fd_law_unlike_house, D_law_unlike_house⟩ := A.d_law_unlike_house
  have c_law_unlike_house := ok_unlike (P := P) (w := w) (base := base) (T := [(Pt, lamQ)]) D_law_unlike_house c_law_draw c_law_house
  obtain ⟨f_law_prices, fd_law_prices, D_law_prices⟩ := A.d_law_prices
  have c_law_prices := ok_prices (P := P) (w := w) (base := base) (T := [(Pt, lamQ)]) B D_law_prices c_law_one_of
  obtain ⟨f_law_contents, fd_law_contents, D_law_contents⟩ := A.d_law_contents
  have c_law_contents := ok_contents (P := P) (w := w) (base := base) (T := [(Pt, lamQ)]) B D_law_contents 
  obtain ⟨f_law_put, fd_law_put, D_law_put⟩ := A.d_law_put
  have c_law_put := ok_put (P := P) (w := w) (base := base) (T := [(Pt, lamQ)]) D_law_put 
  obtain ⟨f_law_done, fd_law_done, D_law_done⟩ := A.d_law_done
  have c_law_done := ok_done (P := P) (w := w) (base := base) (T := [(Pt, lamQ)]) B D_law_done 
  obtain ⟨f_law_answered, fd_law_answered, D_law_answered⟩ := A.d_law_answered
  have c_law_answered := ok_answered (P := P) (w := w) (base := base) (T := [(Pt, lamQ)]) B D_law_answered 
  obtain ⟨f_law_sure, fd_law_sure, D_law_sure⟩ := A.d_law_sure
  have c_law_sure := ok_sure (P := P) (w := w) (base := base) (T := [(Pt, lamQ)]) B D_law_sure c_law_answered
  obtain ⟨f_law_set, fd_law_set, D_law_set⟩ := A.d_law_set
  have c_law_set := ok_set (P := P) (w := w) (base := base) (T := [(Pt, lamQ)]) B D_law_set c_law_draw c_law_contents
  obtain ⟨f_law_item, fd_law_item, D_law_item⟩ := A.d_law_item
  have c_law_item := ok_item (P := P) (w := w) (base := base) (T := [(Pt, lamQ)]) B D_law_item c_law_draw
  obtain ⟨f_law_route, fd_law_route, D_law_route⟩ := A.d_law_route
  have c_law_route := ok_route (P := P) (w := w) (base := base) (T := [(Pt, lamQ)]) B D_law_route c_law_draw c_law_one_of c_law_item
  obtain ⟨f_law_behind, fd_law_behind, D_law_behind⟩ := A.d_law_behind
  have c_law_behind := ok_behind (P := P) (w := w) (base := base) (T := [(Pt, lamQ)]) B D_law_behind c_law_done
  obtain ⟨f_law_parted, fd_law_parted, D_law_parted⟩ := A.d_law_parted
  have c_law_parted := ok_parted (P := P) (w := w) (base := base) (T := [(Pt, lamQ)]) B D_law_parted 
  obtain ⟨f_law_nexts, fd_law_nexts, D_law_nexts⟩ := A.d_law_nexts
  have c_law_nexts := ok_nexts (P := P) (w := w) (base := base) (T := [(Pt, lamQ)]) D_law_nexts c_law_sure c_law_behind
  obtain ⟨f_law_paid, fd_law_paid, D_law_paid⟩ := A.d_law_paid
  have c_law_paid := ok_paid (P := P) (w := w) (base := base) (T := [(Pt, lamQ)]) B D_law_paid 
  obtain ⟨f_law_happens, fd_law_happens, D_law_happens⟩ := A.d_law_happens
  have c_law_happens := ok_happens (P := P) (w := w) (base := base) (T := [(Pt, lamQ)]) B D_law_happens c_law_done c_law_put c_law_answered
  obtain ⟨f_law_all_lived, fd_law_all_lived, D_law_all_lived⟩ := A.d_law_all_lived
  have c_law_all_lived : Cal P w K mg base "_law_all_lived" s__law_all_lived ["_law_house_here", "_law_route_here", "_law_stand", "_law_way_here", "_law_content"] 63 (spLived [(Pt, lamQ)] 60) := ⟨_, _, D_law_all_lived, ok_lived (P := P) (w := w) (base := base) (T := [(Pt, lamQ)]) B D_law_all_lived c_law_happens 60 (by decide)⟩
  obtain ⟨f_law_way, fd_law_way, D_law_way⟩ := A.d_law_way
  have c_law_way : Cal P w K mg base "_law_way" s__law_way ["_law_pen_here", "_law_house_here", "_law_route_here", "_law_stand", "_law_rounds", "_law_looks"] 64 (spWay [(Pt, lamQ)] 60) := ⟨_, _, D_law_way, ok_way (P := P) (w := w) (base := base) (T := [(Pt, lamQ)]) B D_law_way c_law_draw c_law_nexts c_law_parted 60 (by decide)⟩
  obtain ⟨f_law_some_ways, fd_law_some_ways, D_law_some_ways⟩ := A.d_law_some_ways
  have c_law_some_ways := ok_some (P := P) (w := w) (base := base) (T := [(Pt, lamQ)]) B D_law_some_ways c_law_draw c_law_small_house c_law_three_house c_law_unlike_house c_law_house c_law_route c_law_set c_law_way
  obtain ⟨f_law_sure_at_asks, fd_law_sure_at_asks, D_law_sure_at_asks⟩ := A.d_law_sure_at_asks
  have c_law_sure_at_asks := ok_asks (P := P) (w := w) (base := base) (T := [(Pt, lamQ)]) D_law_sure_at_asks c_known_after c_verdict
  obtain ⟨f2, fd2, D2, G2⟩ := ok_law (P := P) (w := w) (base := base) (T := [(Pt, lamQ)]) B D c_law_pen c_law_some_ways c_law_prices c_law_all_lived c_law_paid c_dearest c_law_sure_at_asks
  obtain ⟨e1, e2⟩ := D.uniq D2
  subst e1
  subst e2
  exact G2
/-- the class that walks, and its table -/
def WX (K : PySem.W.Frag) (mg : Str → Option Value) (h : Heap) (Pt : Addr) : Prop := ∃ (C fI fM c : Addr) (fdI fdM : FuncData), WalkC K mg C fI fM fdI fdM ∧ Fun K "__init__" "Walk.__init__" s_Walk___init__ fI fdI ∧ FunL K "most_paid" "Walk.most_paid" s_Walk_most_paid fM fdM c ∧ PySem.W.CodeHd h c Pt
theorem wc_of {K : PySem.W.Frag} {h : Heap} {mg : Str → Option Value} {C fI fM c Pt : Addr} {oc1 oc2 : Value} {od1 od2 an1 an2 : Option Addr} {sl1 sl2 : Array (Option Value)} {kV1 dc1 pm1 cd1 ct1 kV2 dc2 pm2 ct2 : Value} (X : K.In h) (G : h.Ns mainGlobals mg)
    (aC : PySem.W.nsIn K mainGlobals "Walk" = some (some (.ref C))) (pg : PySem.W.plainGet K C Str.empty = true) (hd : PySem.W.hasDictIn K C = true) (po : PySem.W.plainOver K C = true) (sa : PySem.W.findIn K (.ref C) "__setattr__" = some (some (.builtin "object.__setattr__"))) (nG : PySem.W.findIn K (.ref C) "ground" = some none) (nR : PySem.W.findIn K (.ref C) "road" = some none) (mk : PySem.W.makesIn K C = true) (kc : PySem.W.keepIn K (.ref C) = true)
    (a1 : PySem.W.findIn K (.ref C) "__init__" = some (some (.ref fI))) (i1 : PySem.W.isFn K (.ref fI) = true) (l1 : K.lookup fI = some ⟨oc1, od1, .func (PySem.W.fnOf "__init__" "Walk.__init__" (defArgs s_Walk___init__) (defBody s_Walk___init__) (defScope s_Walk___init__) .none kV1 dc1 pm1 an1 cd1 ct1), sl1⟩) (c1 : PySem.W.codeIn K cd1 "Walk.__init__" = true) (k1 : PySem.W.keepIn K (.ref fI) = true)
    (a2 : PySem.W.findIn K (.ref C) "most_paid" = some (some (.ref fM))) (i2 : PySem.W.isFn K (.ref fM) = true) (l2 : K.lookup fM = some ⟨oc2, od2, .func (PySem.W.fnOf "most_paid" "Walk.most_paid" (defArgs s_Walk_most_paid) (defBody s_Walk_most_paid) (defScope s_Walk_most_paid) .none kV2 dc2 pm2 an2 (.ref c) ct2), sl2⟩) (c2 : PySem.W.codeIn K (.ref c) "Walk.most_paid" = true) (k2 : PySem.W.keepIn K (.ref fM) = true) (hc : PySem.W.CodeHd h c Pt) : WX K mg h Pt := by
  have F1 := fun_mk (st := s_Walk___init__) l1 c1 k1
  refine ⟨C, fI, fM, c, _, _, ⟨⟨pg, hd, po, sa⟩, nG, nR, PySem.W.mg_of X G aC, ⟨a2, i2, k2⟩, ⟨mk, a1, i1, kc⟩, ?_, ?_⟩, F1, ⟨⟨oc2, od2, kV2, dc2, pm2, an2, ct2, sl2, rfl, l2, c2⟩, k2⟩, hc⟩
  · exact F1.binds (ps := ["self", "house", "route"]) fun _ _ _ _ _ _ us hl => match us, hl with | [_, _, _], _ => rfl
  · exact .all (ps := ["self", "prices", "spot", "some", "way"]) fun us hl => match us, hl with | [_, _, _, _, _], _ => rfl
theorem law_at {l : PySem.W.OpenLaw} {w : World} {K : PySem.W.Frag} {h : Heap} {mg : Str → Option Value} {fa f Pt : Addr} {oc : Value} {od an : Option Addr} {osl : Array (Option Value)} {kV doc pm cdv ct : Value} (X : K.In h) (G : h.Ns mainGlobals mg) (hfa : mg "law" = some (.ref fa)) (B : Bi mg) (A : AllD K mg) (W : WX K mg h Pt)
    (a : PySem.W.nsIn K mainGlobals "law" = some (some (.ref f))) (l4 : K.lookup f = some ⟨oc, od, .func (PySem.W.fnOf "law" "law" (defArgs s_law) (defBody s_law) (defScope s_law) .none kV doc pm an cdv ct), osl⟩) (c4 : PySem.W.codeIn K cdv "law" = true) (k4 : PySem.W.keepIn K (.ref f) = true)
    (hT : h.get? Pt = some { cls := .none, data := .fields #[] }) (nT : K.lookup Pt = none) : LawAtS l w K CX0 114 63 "_law_script" mg fa h := by
  have e := hfa.symm.trans (PySem.W.mg_of X G a)
  cases e
  obtain ⟨C, fI, fM, c, fdI, fdM, Wc, FI, FM, hc⟩ := W
  refine ⟨PySem.W.fnOf "law" "law" (defArgs s_law) (defBody s_law) (defScope s_law) .none kV doc pm an cdv ct, [(c, Pt)], spLaw K [(Pt, lamQ)], fun p hp => ?_, fun p hp => ?_, fun p hp => ?_, fun s u => .of_eq rfl, fun H a ns _ _ hH hS => ⟨a, ns, rfl, hS, fun p hp => ?_, fun H' _ => rfl⟩, fun base _ _ hTB => ?_⟩
  · rw [List.mem_singleton.mp hp]; exact hT
  · rw [List.mem_singleton.mp hp]; exact nT
  · rw [List.mem_singleton.mp hp]; exact hc
  · rw [List.mem_singleton.mp hp]; exact TabS.nil (hH _ (List.mem_singleton.mpr rfl))
  · exact law_ok B A Wc FI FM (hTB _ (List.mem_singleton.mpr rfl)) ⟨fun_mk l4 c4 k4, (fun_mk l4 c4 k4).binds bd_law, PySem.W.mg_of X G a⟩
end K22
open PySem PySem.W PyProof.Rows
set_option maxRecDepth 100000 in
set_option maxHeartbeats 0 in
theorem PySem.Challenge.cw_roundlooks_k22_whole_ways_lived_holds : PySem.Challenge.rw_roundlooks_k22_whole_ways_lived.Holds := by
  w_on; o_law; k_head; (case hw => w_witness2)
  k_fill
  refine LamX.walk_ofTs (l := PySem.Challenge.rw_roundlooks_k22_whole_ways_lived) (n := 63) (k := 114) (x := "_law_script") (CX := fun _ => L2.CX0) rfl (by decide) rfl ⟨rfl, by decide, by decide⟩ (fun w h Y => km_in_of Y) ?F (fun _ _ _ _ _ z => z)
  case F =>
    intro w mg fa h Y KX G hmg
    have hT8 := km_tabs_of Y
    refine' K22.law_at (Pt := 147) KX G hmg ?B ?A ?W ?la ?ll ?lc ?lk (hT8 147 (by k_mem)) (by kernel_rfl)
    case B =>
      refine' ⟨PySem.W.mg_none_of KX G ?b1, PySem.W.mg_none_of KX G ?b2, PySem.W.mg_none_of KX G ?b3, PySem.W.mg_none_of KX G ?b4, PySem.W.mg_none_of KX G ?b5, PySem.W.mg_none_of KX G ?b6, PySem.W.mg_none_of KX G ?b7, PySem.W.mg_none_of KX G ?b8, PySem.W.mg_none_of KX G ?b9, PySem.W.mg_none_of KX G ?b10, PySem.W.mg_none_of KX G ?b11, PySem.W.mg_none_of KX G ?b12, PySem.W.mg_none_of KX G ?b13⟩
      case b1 => k_is
      case b2 => k_is
      case b3 => k_is
      case b4 => k_is
      case b5 => k_is
      case b6 => k_is
      case b7 => k_is
      case b8 => k_is
      case b9 => k_is
      case b10 => k_is
      case b11 => k_is
      case b12 => k_is
      case b13 => k_is
    case A =>
      refine' ⟨?d_asked, ?d_verdict, ?d_with_value, ?d_behind_step, ?d_carried, ?d_as_set, ?d_image, ?d_maybe, ?d_stirred, ?d_seen_parts, ?d_left_behind, ?d_known_after, ?d_told_ways, ?d_go_on, ?d_one_true, ?d_dearest, ?d_law_fresh, ?d_law_draw, ?d_law_one_of, ?d_law_pen, ?d_law_step_drawn, ?d_law_nodes_drawn, ?d_law_house, ?d_law_small_house, ?d_law_three_house, ?d_law_unlike_house, ?d_law_prices, ?d_law_contents, ?d_law_put, ?d_law_done, ?d_law_answered, ?d_law_sure, ?d_law_set, ?d_law_item, ?d_law_route, ?d_law_behind, ?d_law_parted, ?d_law_nexts, ?d_law_paid, ?d_law_happens, ?d_law_all_lived, ?d_law_way, ?d_law_some_ways, ?d_law_sure_at_asks⟩
      case d_asked =>
        refine' K22.dx_of KX G K22.bd_asked ?a ?l ?c ?k
        (case a => k_is); (case l => k_is); (case c => k_is); (case k => k_is)
      case d_verdict =>
        refine' K22.dx_of KX G K22.bd_verdict ?a ?l ?c ?k
        (case a => k_is); (case l => k_is); (case c => k_is); (case k => k_is)
      case d_with_value =>
        refine' K22.dx_of KX G K22.bd_with_value ?a ?l ?c ?k
        (case a => k_is); (case l => k_is); (case c => k_is); (case k => k_is)
      case d_behind_step =>
        refine' K22.dx_of KX G K22.bd_behind_step ?a ?l ?c ?k
        (case a => k_is); (case l => k_is); (case c => k_is); (case k => k_is)
      case d_carried =>
        refine' K22.dx_of KX G K22.bd_carried ?a ?l ?c ?k
        (case a => k_is); (case l => k_is); (case c => k_is); (case k => k_is)
      case d_as_set =>
        refine' K22.dx_of KX G K22.bd_as_set ?a ?l ?c ?k
        (case a => k_is); (case l => k_is); (case c => k_is); (case k => k_is)
      case d_image =>
        refine' K22.dx_of KX G K22.bd_image ?a ?l ?c ?k
        (case a => k_is); (case l => k_is); (case c => k_is); (case k => k_is)
      case d_maybe =>
        refine' K22.dx_of KX G K22.bd_maybe ?a ?l ?c ?k
        (case a => k_is); (case l => k_is); (case c => k_is); (case k => k_is)
      case d_stirred =>
        refine' K22.dx_of KX G K22.bd_stirred ?a ?l ?c ?k
        (case a => k_is); (case l => k_is); (case c => k_is); (case k => k_is)
      case d_seen_parts =>
        refine' K22.dx_of KX G K22.bd_seen_parts ?a ?l ?c ?k
        (case a => k_is); (case l => k_is); (case c => k_is); (case k => k_is)
      case d_left_behind =>
        refine' K22.dx_of KX G K22.bd_left_behind ?a ?l ?c ?k
        (case a => k_is); (case l => k_is); (case c => k_is); (case k => k_is)
      case d_known_after =>
        refine' K22.dx_of KX G K22.bd_known_after ?a ?l ?c ?k
        (case a => k_is); (case l => k_is); (case c => k_is); (case k => k_is)
      case d_told_ways =>
        refine' K22.dx_of KX G K22.bd_told_ways ?a ?l ?c ?k
        (case a => k_is); (case l => k_is); (case c => k_is); (case k => k_is)
      case d_go_on =>
        refine' K22.dx_of KX G K22.bd_go_on ?a ?l ?c ?k
        (case a => k_is); (case l => k_is); (case c => k_is); (case k => k_is)
      case d_one_true =>
        refine' K22.dx_of KX G K22.bd_one_true ?a ?l ?c ?k
        (case a => k_is); (case l => k_is); (case c => k_is); (case k => k_is)
      case d_dearest =>
        refine' K22.dx_of KX G K22.bd_dearest ?a ?l ?c ?k
        (case a => k_is); (case l => k_is); (case c => k_is); (case k => k_is)
      case d_law_fresh =>
        refine' K22.dx_of KX G K22.bd__law_fresh ?a ?l ?c ?k
        (case a => k_is); (case l => k_is); (case c => k_is); (case k => k_is)
      case d_law_draw =>
        refine' K22.dx_of KX G K22.bd__law_draw ?a ?l ?c ?k
        (case a => k_is); (case l => k_is); (case c => k_is); (case k => k_is)
      case d_law_one_of =>
        refine' K22.dx_of KX G K22.bd__law_one_of ?a ?l ?c ?k
        (case a => k_is); (case l => k_is); (case c => k_is); (case k => k_is)
      case d_law_pen =>
        refine' K22.dx_of KX G K22.bd__law_pen ?a ?l ?c ?k
        (case a => k_is); (case l => k_is); (case c => k_is); (case k => k_is)
      case d_law_step_drawn =>
        refine' K22.dx_of KX G K22.bd__law_step_drawn ?a ?l ?c ?k
        (case a => k_is); (case l => k_is); (case c => k_is); (case k => k_is)
      case d_law_nodes_drawn =>
        refine' K22.dx_of KX G K22.bd__law_nodes_drawn ?a ?l ?c ?k
        (case a => k_is); (case l => k_is); (case c => k_is); (case k => k_is)
      case d_law_house =>
        refine' K22.dx_of KX G K22.bd__law_house ?a ?l ?c ?k
        (case a => k_is); (case l => k_is); (case c => k_is); (case k => k_is)
      case d_law_small_house =>
        refine' K22.dx_of KX G K22.bd__law_small_house ?a ?l ?c ?k
        (case a => k_is); (case l => k_is); (case c => k_is); (case k => k_is)
      case d_law_three_house =>
        refine' K22.dx_of KX G K22.bd__law_three_house ?a ?l ?c ?k
        (case a => k_is); (case l => k_is); (case c => k_is); (case k => k_is)
      case d_law_unlike_house =>
        refine' K22.dx_of KX G K22.bd__law_unlike_house ?a ?l ?c ?k
        (case a => k_is); (case l => k_is); (case c => k_is); (case k => k_is)
      case d_law_prices =>
        refine' K22.dx_of KX G K22.bd__law_prices ?a ?l ?c ?k
        (case a => k_is); (case l => k_is); (case c => k_is); (case k => k_is)
      case d_law_contents =>
        refine' K22.dx_of KX G K22.bd__law_contents ?a ?l ?c ?k
        (case a => k_is); (case l => k_is); (case c => k_is); (case k => k_is)
      case d_law_put =>
        refine' K22.dx_of KX G K22.bd__law_put ?a ?l ?c ?k
        (case a => k_is); (case l => k_is); (case c => k_is); (case k => k_is)
      case d_law_done =>
        refine' K22.dx_of KX G K22.bd__law_done ?a ?l ?c ?k
        (case a => k_is); (case l => k_is); (case c => k_is); (case k => k_is)
      case d_law_answered =>
        refine' K22.dx_of KX G K22.bd__law_answered ?a ?l ?c ?k
        (case a => k_is); (case l => k_is); (case c => k_is); (case k => k_is)
      case d_law_sure =>
        refine' K22.dx_of KX G K22.bd__law_sure ?a ?l ?c ?k
        (case a => k_is); (case l => k_is); (case c => k_is); (case k => k_is)
      case d_law_set =>
        refine' K22.dx_of KX G K22.bd__law_set ?a ?l ?c ?k
        (case a => k_is); (case l => k_is); (case c => k_is); (case k => k_is)
      case d_law_item =>
        refine' K22.dx_of KX G K22.bd__law_item ?a ?l ?c ?k
        (case a => k_is); (case l => k_is); (case c => k_is); (case k => k_is)
      case d_law_route =>
        refine' K22.dx_of KX G K22.bd__law_route ?a ?l ?c ?k
        (case a => k_is); (case l => k_is); (case c => k_is); (case k => k_is)
      case d_law_behind =>
        refine' K22.dx_of KX G K22.bd__law_behind ?a ?l ?c ?k
        (case a => k_is); (case l => k_is); (case c => k_is); (case k => k_is)
      case d_law_parted =>
        refine' K22.dx_of KX G K22.bd__law_parted ?a ?l ?c ?k
        (case a => k_is); (case l => k_is); (case c => k_is); (case k => k_is)
      case d_law_nexts =>
        refine' K22.dx_of KX G K22.bd__law_nexts ?a ?l ?c ?k
        (case a => k_is); (case l => k_is); (case c => k_is); (case k => k_is)
      case d_law_paid =>
        refine' K22.dx_of KX G K22.bd__law_paid ?a ?l ?c ?k
        (case a => k_is); (case l => k_is); (case c => k_is); (case k => k_is)
      case d_law_happens =>
        refine' K22.dx_of KX G K22.bd__law_happens ?a ?l ?c ?k
        (case a => k_is); (case l => k_is); (case c => k_is); (case k => k_is)
      case d_law_all_lived =>
        refine' K22.dx_of KX G K22.bd__law_all_lived ?a ?l ?c ?k
        (case a => k_is); (case l => k_is); (case c => k_is); (case k => k_is)
      case d_law_way =>
        refine' K22.dx_of KX G K22.bd__law_way ?a ?l ?c ?k
        (case a => k_is); (case l => k_is); (case c => k_is); (case k => k_is)
      case d_law_some_ways =>
        refine' K22.dx_of KX G K22.bd__law_some_ways ?a ?l ?c ?k
        (case a => k_is); (case l => k_is); (case c => k_is); (case k => k_is)
      case d_law_sure_at_asks =>
        refine' K22.dx_of KX G K22.bd__law_sure_at_asks ?a ?l ?c ?k
        (case a => k_is); (case l => k_is); (case c => k_is); (case k => k_is)
    case W =>
      refine' K22.wc_of KX G ?aC ?pg ?hd ?po ?sa ?nG ?nR ?mk ?kc ?a1 ?i1 ?l1 ?c1 ?k1 ?a2 ?i2 ?l2 ?c2 ?k2 ?hcx
      (case aC => k_is); (case pg => k_is); (case hd => k_is); (case po => k_is); (case sa => k_is); (case nG => k_is); (case nR => k_is); (case mk => k_is); (case kc => k_is); (case a1 => k_is); (case i1 => k_is); (case l1 => k_is); (case c1 => k_is); (case k1 => k_is); (case a2 => k_is); (case i2 => k_is); (case l2 => k_is); (case c2 => k_is); (case k2 => k_is)
      case hcx => exact codeHd_of_K KX (by kernel_rfl)
    (case la => k_is); (case ll => k_is); (case lc => k_is); (case lk => k_is)
