import PyProof.Rows.All
import Wide.All
import OpenK.AllK
import Wide.FinOn
import HandS.ForMost
import HandS.ForExc
import HandS.Lambda
import HandS.Walk
import HandS.Wide
import HandS.Deep
import HandS.TupAny
import HandS.Style
import KE.SortData
import KE.DataIsa
import HandS.SortKw
import KE.KSortKey
import HandS.Zip
import HandS.Ends
import PySem.Challenge.RW_lookdue_k02_paths_in_order

set_option Elab.async false
set_option linter.all false
set_option maxRecDepth 100000
set_option maxHeartbeats 4000000
/-! DA: values as data (PyData), slots that own their lists, cells that are shared; readings of expressions, tests, statements as functions of these. -/
namespace DL
open PySem PySem.Spec PyProof.Rows L2 LamX

abbrev D := PyData

/-! ### what stands for data -/
mutual
/-- v stands for d, for good: its lists are locked -/
inductive Fz (K : PySem.W.Frag) (H : Hp) : V → D → Prop
  | non : Fz K H .non .none
  | bl (b : Bool) : Fz K H (.bl b) (.bool b)
  | int (i : Int) : Fz K H (.int i) (.int i)
  | str (x : Str) : PyData.strOk x = true → Fz K H (.str x) (.str x)
  | lst {a : Addr} {o : Obj} {xs : List V} {ds : List D} : H a = some (.frz o (.lst xs)) → FzA K H xs ds → Fz K H (.ref a) (.list ds)
  | tup {a : Addr} {xs : List V} {ds : List D} : SqT K H a xs → FzA K H xs ds → Fz K H (.ref a) (.tuple ds)
inductive FzA (K : PySem.W.Frag) (H : Hp) : List V → List D → Prop
  | nil : FzA K H [] []
  | cons {v : V} {vs : List V} {d : D} {ds : List D} : Fz K H v d → FzA K H vs ds → FzA K H (v :: vs) (d :: ds)
end

/-- the cells at ρ may have changed, tables may have grown; all else stays -/
def SmC (ρ : List Addr) (H H' : Hp) : Prop := ∀ a o, H a = some o → H' a = some o ∨ (a ∈ ρ ∧ ∃ vs vs', o = HO.lst vs ∧ H' a = some (.lst vs')) ∨ ∃ ps ps', o = HO.tbl ps ∧ H' a = some (.tbl ps')
theorem SmC.refl (ρ : List Addr) (H : Hp) : SmC ρ H H := fun _ _ h => .inl h
theorem SmC.ofAll {ρ : List Addr} {H H' : Hp} (h : ∀ a o, H a = some o → H' a = some o) : SmC ρ H H' := fun a o e => .inl (h a o e)
theorem SmC.keep {ρ : List Addr} {H H' : Hp} (h : SmC ρ H H') {a : Addr} {o : HO} (e : H a = some o) (n1 : ∀ vs, o ≠ .lst vs) (n2 : ∀ ps, o ≠ .tbl ps) : H' a = some o := by
  rcases h a o e with q | ⟨_, vs, _, q, _⟩ | ⟨ps, _, q, _⟩
  · exact q
  · exact absurd q (n1 vs)
  · exact absurd q (n2 ps)
theorem SmC.lst {ρ : List Addr} {H H' : Hp} (h : SmC ρ H H') {a : Addr} {vs : List V} (e : H a = some (.lst vs)) (n : a ∉ ρ) : H' a = some (.lst vs) := by
  rcases h a _ e with q | ⟨q, _⟩ | ⟨ps, _, q, _⟩
  · exact q
  · exact absurd q n
  · cases q
theorem SmC.none {ρ : List Addr} {H H' : Hp} (e : SmC ρ H H') {a : Addr} (h : H' a = Option.none) : H a = Option.none := by
  cases q : H a with
  | none => rfl
  | some o =>
    rcases e a o q with z | ⟨_, _, _, _, z⟩ | ⟨_, _, _, z⟩ <;> (rw [h] at z; cases z)

section
variable {K : PySem.W.Frag} {H H' : Hp} {ρ : List Addr}
theorem sqT_mono (h : SmC ρ H H') {a : Addr} {xs : List V} (q : SqT K H a xs) : SqT K H' a xs := by
  rcases q with (q | ⟨o, q⟩) | q
  · exact .inl (.inl (h.keep q (fun _ z => nomatch z) fun _ z => nomatch z))
  · exact .inl (.inr ⟨o, h.keep q (fun _ z => nomatch z) fun _ z => nomatch z⟩)
  · exact .inr q
mutual
theorem Fz.mono (h : SmC ρ H H') : ∀ {v : V} {d : D}, Fz K H v d → Fz K H' v d
  | _, _, .non => .non
  | _, _, .bl b => .bl b
  | _, _, .int i => .int i
  | _, _, .str x q => .str x q
  | _, _, .lst e r => .lst (h.keep e (fun _ z => nomatch z) fun _ z => nomatch z) (FzA.mono h r)
  | _, _, .tup e r => .tup (sqT_mono h e) (FzA.mono h r)
theorem FzA.mono (h : SmC ρ H H') : ∀ {vs : List V} {ds : List D}, FzA K H vs ds → FzA K H' vs ds
  | _, _, .nil => .nil
  | _, _, .cons r t => .cons (Fz.mono h r) (FzA.mono h t)
end
theorem FzA.length : ∀ {vs : List V} {ds : List D}, FzA K H vs ds → vs.length = ds.length
  | _, _, .nil => rfl
  | _, _, .cons _ t => by simp [FzA.length t]
theorem FzA.get : ∀ {vs : List V} {ds : List D} {i : Nat} {d : D}, FzA K H vs ds → ds[i]? = some d → ∃ v, vs[i]? = some v ∧ Fz K H v d
  | _, _, _, _, .nil, e => by simp at e
  | _, _, 0, _, .cons r _, e => by simp at e; subst e; exact ⟨_, rfl, r⟩
  | _, _, i + 1, d, .cons _ t, e => by
    obtain ⟨v, h1, h2⟩ := FzA.get (i := i) (d := d) t (by simpa using e)
    exact ⟨v, by simpa using h1, h2⟩
theorem FzA.getV : ∀ {vs : List V} {ds : List D} {i : Nat} {v : V}, FzA K H vs ds → vs[i]? = some v → ∃ d, ds[i]? = some d ∧ Fz K H v d
  | _, _, _, _, .nil, e => by simp at e
  | _, _, 0, _, .cons r _, e => by simp at e; subst e; exact ⟨_, rfl, r⟩
  | _, _, i + 1, v, .cons _ t, e => by
    obtain ⟨d, h1, h2⟩ := FzA.getV (i := i) (v := v) t (by simpa using e)
    exact ⟨d, by simpa using h1, h2⟩
theorem FzA.append : ∀ {vs ws : List V} {ds es : List D}, FzA K H vs ds → FzA K H ws es → FzA K H (vs ++ ws) (ds ++ es)
  | _, _, _, _, .nil, s => s
  | _, _, _, _, .cons r t, s => .cons r (FzA.append t s)
theorem FzA.take : ∀ {vs : List V} {ds : List D} (n : Nat), FzA K H vs ds → FzA K H (vs.take n) (ds.take n)
  | _, _, 0, _ => .nil
  | _, _, _ + 1, .nil => .nil
  | _, _, n + 1, .cons r t => .cons r (FzA.take n t)
theorem FzA.drop : ∀ {vs : List V} {ds : List D} (n : Nat), FzA K H vs ds → FzA K H (vs.drop n) (ds.drop n)
  | _, _, 0, r => r
  | _, _, _ + 1, .nil => .nil
  | _, _, n + 1, .cons _ t => FzA.drop n t
theorem FzA.set {v : V} {d : D} (r : Fz K H v d) : ∀ {vs : List V} {ds : List D} (i : Nat), FzA K H vs ds → FzA K H (vs.set i v) (ds.set i d)
  | _, _, _, .nil => .nil
  | _, _, 0, .cons _ t => .cons r t
  | _, _, i + 1, .cons q t => .cons q (FzA.set r i t)
theorem FzA.one {v : V} {d : D} (r : Fz K H v d) : FzA K H [v] [d] := .cons r .nil
mutual
theorem Fz.dp : ∀ {v : V} {d : D}, Fz K H v d → Dp K H v d
  | _, _, .non => .non
  | _, _, .bl b => .bl b
  | _, _, .int i => .int i
  | _, _, .str x _ => .str x
  | _, _, .lst e r => .lst (.inl (.inr ⟨_, e⟩)) (FzA.dp r)
  | _, _, .tup e r => .tup e (FzA.dp r)
theorem FzA.dp : ∀ {vs : List V} {ds : List D}, FzA K H vs ds → DpAll K H vs ds
  | _, _, .nil => .nil
  | _, _, .cons r t => .cons (Fz.dp r) (FzA.dp t)
end
end

mutual
/-- data that stand for good can be laid -/
theorem Fz.lay {K : PySem.W.Frag} {H : Hp} : ∀ {v : V} {d : D}, Fz K H v d → d.canLay0 = true
  | _, _, .non => by simp [PyData.canLay0]
  | _, _, .bl b => by simp [PyData.canLay0]
  | _, _, .int i => by simp [PyData.canLay0]
  | _, _, .str x q => by simp [PyData.canLay0, q]
  | _, _, .lst e r => by simp [PyData.canLay0, FzA.lay r]
  | _, _, .tup e r => by simp [PyData.canLay0, FzA.lay r]
theorem FzA.lay {K : PySem.W.Frag} {H : Hp} : ∀ {vs : List V} {ds : List D}, FzA K H vs ds → PyData.canLayAll0 ds = true
  | _, _, .nil => by simp [PyData.canLayAll0]
  | _, _, .cons r t => by simp [PyData.canLayAll0, Fz.lay r, FzA.lay t]
end

/-! ### results, slots, cells -/
inductive SV where
  /-- data, for good -/
  | dat (d : D)
  /-- a list that nothing else holds -/
  | own (d : List D)
  /-- the k-th cell: a list that is shared and may change -/
  | cell (k : Nat)
  /-- the script: its ints -/
  | scr (ns : List Int)
inductive Res (α : Type) where
  | ok (a : α)
  | exc (c : Nat) (d : D) (hs : List (List D))
  | stuck
abbrev Hs := List (List D)
abbrev Envd := List (Option SV)
abbrev XE := Envd → Hs → Res (SV × Hs)
abbrev XB := Envd → Hs → Res (Bool × Hs)
abbrev XA := Envd → Hs → Res (List D × Hs)
inductive Fl where
  | nx | bk | ct
  | rt (r : SV)
abbrev XS := Envd → Hs → Res (Fl × Envd × Hs)

/-- what is told of the whole: the written part, the tables of code objects, the exceptions (class, field) -/
structure Gx where
  K : PySem.W.Frag
  T : List (Addr × Str)
  xc : Nat → Option (Addr × Str)

/-- cells and tables -/
structure Wd (G : Gx) (ρ : List Addr) (H : Hp) (hs : Hs) : Prop where
  len : ρ.length = hs.length
  nd : ρ.Nodup
  at_ : ∀ (k : Nat) (a : Addr) (ds : List D), ρ[k]? = some a → hs[k]? = some ds → ∃ vs, H a = some (.lst vs) ∧ FzA G.K H vs ds
  tabs : Tabs G.T H
theorem Wd.lst {G : Gx} {ρ : List Addr} {H : Hp} {hs : Hs} (w : Wd G ρ H hs) {a : Addr} (h : a ∈ ρ) : ∃ vs, H a = some (.lst vs) := by
  obtain ⟨k, hk, e⟩ := List.getElem_of_mem h
  have hk' : k < hs.length := by rw [← w.len]; exact hk
  obtain ⟨vs, q, _⟩ := w.at_ k a hs[k] (by rw [← e]; simp [hk]) (by simp [hk'])
  exact ⟨vs, q⟩

/-- the script's list: locked, or of the written part -/
def ScrL (K : PySem.W.Frag) (H : Hp) (a : Addr) (ns : List Int) : Prop := (∃ o, H a = some (.frz o (.lst (ns.map V.int)))) ∨
  ∃ (o : Obj) (its : Array Value) (n : Nat), K.lookup a = some o ∧ o.cls = .type "list" ∧ o.dict = none ∧ o.data = .seq its n ∧ its.size ≤ sizeLine ∧ Vals (ns.map V.int) its.toList
theorem ScrL.sq {K : PySem.W.Frag} {H : Hp} {a : Addr} {ns : List Int} (h : ScrL K H a ns) : SqL K H a (ns.map V.int) := h.elim (fun ⟨o, e⟩ => .inl (.inr ⟨o, e⟩)) .inr
theorem ScrL.mono {K : PySem.W.Frag} {ρ : List Addr} {H H' : Hp} {a : Addr} {ns : List Int} (s : SmC ρ H H') (h : ScrL K H a ns) : ScrL K H' a ns :=
  h.elim (fun ⟨o, e⟩ => .inl ⟨o, s.keep e (fun _ z => nomatch z) fun _ z => nomatch z⟩) .inr
def SlotR (G : Gx) (ρ : List Addr) (H : Hp) : Option V → Option SV → Prop
  | _, none => True
  | some v, some (.dat d) => Fz G.K H v d
  | some v, some (.own ds) => ∃ a vs, v = .ref a ∧ H a = some (.lst vs) ∧ a ∉ ρ ∧ FzA G.K H vs ds
  | some v, some (.cell k) => ∃ a, v = .ref a ∧ ρ[k]? = some a
  | some v, some (.scr ns) => ∃ a, v = .ref a ∧ ScrL G.K H a ns
  | none, some _ => False
/-- the slots -/
structure SR (G : Gx) (ρ : List Addr) (H : Hp) (σ : L2.St) (env : Envd) : Prop where
  len : env.length = σ.length
  at_ : ∀ i : Nat, SlotR G ρ H (σ[i]?.join) (env[i]?.join)
  apart : ∀ (i j : Nat) (ds es : List D) (v : V), i ≠ j → env[i]? = some (some (.own ds)) → env[j]? = some (some (.own es)) → σ[i]? = some (some v) → σ[j]? = some (some v) → False

/-- a result -/
def RR (G : Gx) (H₀ : Hp) (ρ : List Addr) (H : Hp) (v : V) : SV → Prop
  | .dat d => Fz G.K H v d
  | .own ds => ∃ a vs, v = .ref a ∧ H a = some (.lst vs) ∧ H₀ a = none ∧ a ∉ ρ ∧ FzA G.K H vs ds
  | .cell k => ∃ a, v = .ref a ∧ ρ[k]? = some a
  | .scr ns => ∃ a, v = .ref a ∧ ScrL G.K H a ns

def ExcR (G : Gx) (c : Nat) (d : D) (E : XK) (H : Hp) : Prop := ∀ C f dd v, G.xc c = some (C, f) → H dd = some (.xd [(f, v)]) → Fz G.K H v d → E (.ref C) (some dd) H

/-- a step: cells and tables may have changed, new cells are new -/
structure Ext (ρ : List Addr) (H : Hp) (ρ' : List Addr) (H' : Hp) : Prop where
  sm : SmC ρ H H'
  pre : ρ <+: ρ'
  new : ∀ a ∈ ρ', a ∉ ρ → H a = none
theorem Ext.refl (ρ : List Addr) (H : Hp) : Ext ρ H ρ H := ⟨SmC.refl _ _, List.prefix_refl _, fun _ h n => absurd h n⟩
theorem Ext.ofAll {ρ : List Addr} {H H' : Hp} (h : ∀ a o, H a = some o → H' a = some o) : Ext ρ H ρ H' := ⟨SmC.ofAll h, List.prefix_refl _, fun _ h n => absurd h n⟩
theorem Ext.none {ρ ρ' : List Addr} {H H' : Hp} (e : Ext ρ H ρ' H') {a : Addr} (h : H' a = Option.none) : H a = Option.none := e.sm.none h
theorem Ext.trans {ρ ρ1 ρ2 : List Addr} {H H1 H2 : Hp} (a : Ext ρ H ρ1 H1) (b : Ext ρ1 H1 ρ2 H2) : Ext ρ H ρ2 H2 := by
  have hs : SmC ρ H H2 := fun c o h => by
    rcases a.sm c o h with q | ⟨m, vs, vs', e1, q⟩ | ⟨ps, ps', e1, q⟩
    · rcases b.sm c o q with q2 | ⟨m, vs, vs', e2, q2⟩ | ⟨ps, ps', e2, q2⟩
      · exact .inl q2
      · by_cases hc : c ∈ ρ
        · exact .inr (.inl ⟨hc, vs, vs', e2, q2⟩)
        · rw [a.new c m hc] at h; cases h
      · exact .inr (.inr ⟨ps, ps', e2, q2⟩)
    · rcases b.sm c _ q with q2 | ⟨_, ws, ws', e2, q2⟩ | ⟨ps, ps', e2, q2⟩
      · exact .inr (.inl ⟨m, vs, vs', e1, q2⟩)
      · exact .inr (.inl ⟨m, vs, ws', e1, q2⟩)
      · cases e2
    · rcases b.sm c _ q with q2 | ⟨_, ws, ws', e2, q2⟩ | ⟨qs, qs', e2, q2⟩
      · exact .inr (.inr ⟨ps, ps', e1, q2⟩)
      · cases e2
      · exact .inr (.inr ⟨ps, qs', e1, q2⟩)
  refine ⟨hs, List.IsPrefix.trans a.pre b.pre, fun c m n => ?_⟩
  by_cases h1 : c ∈ ρ1
  · exact a.new c h1 n
  · exact a.none (b.new c m h1)

/-- what is asked of the ends of a reading -/
def Out (G : Gx) (E : XK) (ρ : List Addr) (H : Hp) {α : Type} (o : Res (α × Hs)) (Q : α → List Addr → Hs → Hp → Prop) : Prop :=
  match o with
  | .ok (r, hs') => ∀ ρ' H', Ext ρ H ρ' H' → Wd G ρ' H' hs' → Q r ρ' hs' H'
  | .exc c d hs' => ∀ ρ' H', Ext ρ H ρ' H' → Wd G ρ' H' hs' → ExcR G c d E H'
  | .stuck => False
theorem Out.imp {G : Gx} {E : XK} {ρ : List Addr} {H : Hp} {α : Type} {o : Res (α × Hs)} {Q Q' : α → List Addr → Hs → Hp → Prop} (h : Out G E ρ H o Q)
    (i : ∀ r hs' ρ' H', o = .ok (r, hs') → Ext ρ H ρ' H' → Wd G ρ' H' hs' → Q r ρ' hs' H' → Q' r ρ' hs' H') : Out G E ρ H o Q' := by
  cases o with
  | ok p => exact fun ρ' H' a b => i _ _ ρ' H' rfl a b (h ρ' H' a b)
  | exc c d hs => exact h
  | stuck => exact h
/-- one reading behind another -/
def andThen {α β : Type} (o : Res (α × Hs)) (f : α → Hs → Res (β × Hs)) : Res (β × Hs) :=
  match o with
  | .ok (a, hs) => f a hs
  | .exc c d hs => .exc c d hs
  | .stuck => .stuck
theorem Out.seq {G : Gx} {E : XK} {ρ : List Addr} {H : Hp} {α β : Type} {o : Res (α × Hs)} {f : α → Hs → Res (β × Hs)} {Q : β → List Addr → Hs → Hp → Prop} (h : Out G E ρ H (andThen o f) Q) :
    Out G E ρ H o fun a ρ1 hs1 H1 => Out G E ρ1 H1 (f a hs1) Q := by
  cases o with
  | ok p =>
    obtain ⟨a, hs⟩ := p
    intro ρ1 H1 e1 w1
    show Out G E ρ1 H1 (f a hs) Q
    have h' : Out G E ρ H (f a hs) Q := h
    revert h'
    cases f a hs with
    | ok q => exact fun h' ρ2 H2 e2 w2 => h' ρ2 H2 (e1.trans e2) w2
    | exc c d hs => exact fun h' ρ2 H2 e2 w2 => h' ρ2 H2 (e1.trans e2) w2
    | stuck => exact fun h' => h'
  | exc c d hs => exact h
  | stuck => exact h

section
variable {G : Gx} {ρ ρ' : List Addr} {H H' : Hp} {hs hs' : Hs} {σ : L2.St} {env : Envd}
/-- an address that holds a list stays no cell -/
theorem Ext.nin (e : Ext ρ H ρ' H') {a : Addr} {o : HO} (h : H a = some o) (n : a ∉ ρ) : a ∉ ρ' := fun m => by
  have z := e.new a m n
  rw [h] at z; cases z
theorem pre_get {ρ ρ' : List Addr} (h : ρ <+: ρ') {k : Nat} {a : Addr} (e : ρ[k]? = some a) : ρ'[k]? = some a := by
  obtain ⟨t, rfl⟩ := h
  exact List.getElem?_append_left (List.getElem?_eq_some_iff.mp e).1 ▸ e
theorem SlotR.ext (e : Ext ρ H ρ' H') {v : Option V} {r : Option SV} (h : SlotR G ρ H v r) : SlotR G ρ' H' v r := by
  cases r with
  | none => cases v <;> trivial
  | some r =>
    cases v with
    | none => cases r <;> exact h
    | some v =>
      cases r with
      | dat d => exact Fz.mono e.sm h
      | own ds =>
        obtain ⟨a, vs, rfl, h1, h2, h3⟩ := h
        exact ⟨a, vs, rfl, e.sm.lst h1 h2, e.nin h1 h2, FzA.mono e.sm h3⟩
      | cell k =>
        obtain ⟨a, rfl, h1⟩ := h
        exact ⟨a, rfl, pre_get e.pre h1⟩
      | scr ns =>
        obtain ⟨a, rfl, h1⟩ := h
        exact ⟨a, rfl, h1.mono e.sm⟩
theorem SR.ext (e : Ext ρ H ρ' H') (h : SR G ρ H σ env) : SR G ρ' H' σ env := ⟨h.len, fun i => (h.at_ i).ext e, h.apart⟩
theorem RR.ext {ρ1 : List Addr} {H1 : Hp} (e : Ext ρ1 H1 ρ' H') {H₀ : Hp} {v : V} {r : SV} (h : RR G H₀ ρ1 H1 v r) : RR G H₀ ρ' H' v r := by
  cases r with
  | dat d => exact Fz.mono e.sm h
  | own ds =>
    obtain ⟨a, vs, rfl, h1, h0, h2, h3⟩ := h
    exact ⟨a, vs, rfl, e.sm.lst h1 h2, h0, e.nin h1 h2, FzA.mono e.sm h3⟩
  | cell k =>
    obtain ⟨a, rfl, h1⟩ := h
    exact ⟨a, rfl, pre_get e.pre h1⟩
  | scr ns =>
    obtain ⟨a, rfl, h1⟩ := h
    exact ⟨a, rfl, h1.mono e.sm⟩
/-- a new object, tracked -/
theorem ext_new {p : Addr} {o : HO} (hp : H p = none) : Ext ρ H ρ (upd H p o) := .ofAll fun a u e => by rw [upd_ne (ne_of_none e hp)]; exact e
theorem tabs_ofAll {T : List (Addr × Str)} (t : Tabs T H) (h : ∀ a o, H a = some o → H' a = some o) : Tabs T H' := t.ext h
theorem Wd.ofAll (w : Wd G ρ H hs) (h : ∀ a o, H a = some o → H' a = some o) : Wd G ρ H' hs :=
  ⟨w.len, w.nd, fun k a ds e1 e2 => let ⟨vs, q1, q2⟩ := w.at_ k a ds e1 e2; ⟨vs, h a _ q1, FzA.mono (SmC.ofAll (ρ := ρ) h) q2⟩, w.tabs.ext h⟩
theorem Wd.new {p : Addr} {o : HO} (w : Wd G ρ H hs) (hp : H p = none) : Wd G ρ (upd H p o) hs := w.ofAll fun a u e => by rw [upd_ne (ne_of_none e hp)]; exact e
theorem Wd.nin (w : Wd G ρ H hs) {p : Addr} (hp : H p = none) : p ∉ ρ := fun m => by
  obtain ⟨vs, e⟩ := w.lst m
  rw [hp] at e; cases e
end

/-! ### readings -/
def tD (G : Gx) (E : XK) (m : XE) : TE := fun σ H Q => ∃ ρ env hs, SR G ρ H σ env ∧ Wd G ρ H hs ∧ Out G E ρ H (m env hs) fun r ρ' _ H' => ∀ v, RR G H ρ' H' v r → Q v H'
def tT (G : Gx) (E : XK) (m : XB) : TT := fun σ H Q => ∃ ρ env hs, SR G ρ H σ env ∧ Wd G ρ H hs ∧ Out G E ρ H (m env hs) fun b _ _ H' => Q b H'
def tA (G : Gx) (E : XK) (m : XA) : TA := fun σ H Q => ∃ ρ env hs, SR G ρ H σ env ∧ Wd G ρ H hs ∧ Out G E ρ H (m env hs) fun ds ρ' _ H' => ∀ vs, FzA G.K H' vs ds → Q vs H'
end DL
set_option Elab.async false
set_option linter.all false
set_option maxRecDepth 100000
set_option maxHeartbeats 4000000
/-! DB: expressions. -/
namespace DL
open PySem PySem.Spec PyProof.Rows L2 LamX

theorem PE.less {X : Cx} {e : Expr} {t t' : TE} (h : PE X e t) (i : ∀ σ H Q, t' σ H Q → t σ H Q) : PE X e t' := ⟨fun pins s σ H Q I q => h.run pins s σ H Q I (i σ H Q q)⟩
theorem PT.less {X : Cx} {e : Expr} {t t' : TT} (h : PT X e t) (i : ∀ σ H Q, t' σ H Q → t σ H Q) : PT X e t' := ⟨fun pins s σ H Q I q => h.run pins s σ H Q I (i σ H Q q)⟩
theorem PA.less {X : Cx} {e : List Expr} {t t' : TA} (h : PA X e t) (i : ∀ σ H Q, t' σ H Q → t σ H Q) : PA X e t' := ⟨fun pos pins s σ H Q I q => h.run pos pins s σ H Q I (i σ H Q q)⟩
theorem PS.less {X : Cx} {e : Stmt} {t t' : TS} (h : PS X e t) (i : ∀ D σ H, t' D σ H → t D σ H) : PS X e t' := ⟨fun pins s σ H D I q => h.run pins s σ H D I (i D σ H q)⟩
theorem PSs.less {X : Cx} {e : List Stmt} {t t' : TS} (h : PSs X e t) (i : ∀ D σ H, t' D σ H → t D σ H) : PSs X e t' := ⟨fun pins s σ H D I q => h.run pins s σ H D I (i D σ H q)⟩

/-- borrowed: data, or a list that somebody owns -/
def Br (K : PySem.W.Frag) (ρ : List Addr) (H : Hp) (v : V) (d : D) : Prop := Fz K H v d ∨ ∃ a vs ds, v = .ref a ∧ d = .list ds ∧ H a = some (.lst vs) ∧ a ∉ ρ ∧ FzA K H vs ds
theorem Br.ext {K : PySem.W.Frag} {ρ ρ' : List Addr} {H H' : Hp} (e : Ext ρ H ρ' H') {v : V} {d : D} (h : Br K ρ H v d) : Br K ρ' H' v d := by
  rcases h with h | ⟨a, vs, ds, h1, h2, h3, h4, h5⟩
  · exact .inl (Fz.mono e.sm h)
  · exact .inr ⟨a, vs, ds, h1, h2, e.sm.lst h3 h4, e.nin h3 h4, FzA.mono e.sm h5⟩
/-- a list that may be read -/
theorem Br.lst {K : PySem.W.Frag} {ρ : List Addr} {H : Hp} {v : V} {ds : List D} (h : Br K ρ H v (.list ds)) : ∃ a vs, v = .ref a ∧ Rd H a (.lst vs) ∧ FzA K H vs ds := by
  rcases h with h | ⟨a, vs, es, h1, h2, h3, h4, h5⟩
  · cases h with
    | lst e r => exact ⟨_, _, rfl, .inr ⟨_, e⟩, r⟩
  · cases h2; exact ⟨a, vs, h1, .inl h3, h5⟩
theorem Br.dp {K : PySem.W.Frag} {ρ : List Addr} {H : Hp} {v : V} {d : D} (h : Br K ρ H v d) : Dp K H v d := by
  rcases h with h | ⟨a, vs, ds, rfl, rfl, h3, h4, h5⟩
  · exact h.dp
  · exact .lst (.inl (.inl h3)) (FzA.dp h5)
theorem Br.fz {K : PySem.W.Frag} {ρ : List Addr} {H : Hp} {v : V} {d : D} (h : Br K ρ H v d) (n : ∀ ds, d ≠ .list ds) : Fz K H v d := by
  rcases h with h | ⟨a, vs, ds, _, e, _⟩
  · exact h
  · exact absurd e (n ds)

abbrev XD := Envd → Hs → Res (D × Hs)
def tB (G : Gx) (E : XK) (m : XD) : TE := fun σ H Q => ∃ ρ env hs, SR G ρ H σ env ∧ Wd G ρ H hs ∧ Out G E ρ H (m env hs) fun d ρ' _ H' => ∀ v, Br G.K ρ' H' v d → Q v H'

structure DE (X : Cx) (G : Gx) (E : XK) (e : Expr) (m : XE) : Prop where
  hK : G.K = X.K
  pe : PE X e (tD G E m)
structure DBo (X : Cx) (G : Gx) (E : XK) (e : Expr) (m : XD) : Prop where
  hK : G.K = X.K
  pe : PE X e (tB G E m)
structure DT (X : Cx) (G : Gx) (E : XK) (e : Expr) (m : XB) : Prop where
  hK : G.K = X.K
  pt : PT X e (tT G E m)
structure DAr (X : Cx) (G : Gx) (E : XK) (es : List Expr) (m : XA) : Prop where
  hK : G.K = X.K
  pa : PA X es (tA G E m)

section
variable {X : Cx} {G : Gx} {E : XK} {e a b c : Expr} {es : List Expr} {pos : Pos}

/-! ### names, constants -/
def xVar (i : Nat) : XE := fun env hs => match env[i]?.join with
  | some (.dat d) => .ok (.dat d, hs)
  | some (.cell k) => .ok (.cell k, hs)
  | some (.scr ns) => .ok (.scr ns, hs)
  | _ => .stuck
def xVarB (i : Nat) : XD := fun env hs => match env[i]?.join with
  | some (.dat d) => .ok (d, hs)
  | some (.own ds) => .ok (.list ds, hs)
  | _ => .stuck
theorem slot_get {ρ : List Addr} {H : Hp} {σ : L2.St} {env : Envd} {i : Nat} {r : SV} (R : SR G ρ H σ env) (e : env[i]?.join = some r) : ∃ v, σ[i]? = some (some v) ∧ SlotR G ρ H (some v) (some r) := by
  have h := R.at_ i
  rw [e] at h
  cases q : σ[i]? with
  | none => rw [q] at h; cases r <;> exact h.elim
  | some o =>
    rw [q] at h
    cases o with
    | none => cases r <;> exact h.elim
    | some v => exact ⟨v, rfl, h⟩
theorem de_var (i : Nat) {x : Str} (hK : G.K = X.K := by rfl) (hN : X.N[i]? = some x := by rfl) (hv : Vis X.env.scope x := by first | exact Or.inl rfl | exact Or.inr (Or.inl rfl) | exact Or.inr (Or.inr rfl))
    (hd : (x == ("__debug__" : Str)) = false := by decide) (hcd : (x == ("__classdict__" : Str)) = false := by decide) : DE X G E (.Name x pos) (xVar i) := by
  refine ⟨hK, PE.less (pe_var hN hv hd hcd) fun σ H Q h => ?_⟩
  obtain ⟨ρ, env, hs, R, w, q⟩ := h
  unfold xVar at q
  split at q
  · rename_i d ed
    obtain ⟨v, e1, e2⟩ := slot_get R ed
    exact ⟨v, e1, q ρ H (Ext.refl _ _) w v e2⟩
  · rename_i k ed
    obtain ⟨v, e1, e2⟩ := slot_get R ed
    exact ⟨v, e1, q ρ H (Ext.refl _ _) w v e2⟩
  · rename_i ns ed
    obtain ⟨v, e1, e2⟩ := slot_get R ed
    exact ⟨v, e1, q ρ H (Ext.refl _ _) w v e2⟩
  · exact q.elim
theorem db_var (i : Nat) {x : Str} (hK : G.K = X.K := by rfl) (hN : X.N[i]? = some x := by rfl) (hv : Vis X.env.scope x := by first | exact Or.inl rfl | exact Or.inr (Or.inl rfl) | exact Or.inr (Or.inr rfl))
    (hd : (x == ("__debug__" : Str)) = false := by decide) (hcd : (x == ("__classdict__" : Str)) = false := by decide) : DBo X G E (.Name x pos) (xVarB i) := by
  refine ⟨hK, PE.less (pe_var hN hv hd hcd) fun σ H Q h => ?_⟩
  obtain ⟨ρ, env, hs, R, w, q⟩ := h
  unfold xVarB at q
  split at q
  · rename_i d ed
    obtain ⟨v, e1, e2⟩ := slot_get R ed
    exact ⟨v, e1, q ρ H (Ext.refl _ _) w v (.inl e2)⟩
  · rename_i ds ed
    obtain ⟨v, e1, a, vs, h1, h2, h3, h4⟩ := slot_get R ed
    exact ⟨v, e1, q ρ H (Ext.refl _ _) w v (.inr ⟨a, vs, ds, h1, rfl, h2, h3, h4⟩)⟩
  · exact q.elim
def xC (d : D) : XE := fun _ hs => .ok (.dat d, hs)
theorem tC_of {σ : L2.St} {H : Hp} {Q : VK} {v : V} {d : D} (f : ∀ H, Fz G.K H v d) (h : tD G E (xC d) σ H Q) : tC v σ H Q := by
  obtain ⟨ρ, env, hs, R, w, q⟩ := h
  exact q ρ H (Ext.refl _ _) w v (f H)
theorem de_int {i : Int} {j : Nat} (hK : G.K = X.K := by rfl) : DE X G E (.Constant (.int i) j pos) (xC (.int i)) := ⟨hK, PE.less pe_int fun _ _ _ h => tC_of (fun _ => .int i) h⟩
theorem de_bl {i : Bool} {j : Nat} (hK : G.K = X.K := by rfl) : DE X G E (.Constant (.bool i) j pos) (xC (.bool i)) := ⟨hK, PE.less pe_bl fun _ _ _ h => tC_of (fun _ => .bl i) h⟩
theorem de_non {j : Nat} (hK : G.K = X.K := by rfl) : DE X G E (.Constant .none j pos) (xC .none) := ⟨hK, PE.less pe_non fun _ _ _ h => tC_of (fun _ => .non) h⟩
theorem de_str {i : Str} {j : Nat} (hK : G.K = X.K := by rfl) (hz : PyData.strOk i = true := by decide) : DE X G E (.Constant (.str i) j pos) (xC (.str i)) := ⟨hK, PE.less pe_str fun _ _ _ h => tC_of (fun _ => .str i hz) h⟩
/-- a constant of the module -/
theorem de_glob {x : Str} {v : V} {u : Value} {d : D} (hg : Gl X x) (hm : X.mg x = some u) (r : RelV v u) (f : ∀ H, Fz G.K H v d) (hK : G.K = X.K := by rfl) (hd : (x == ("__debug__" : Str)) = false := by decide) : DE X G E (.Name x pos) (xC d) :=
  ⟨hK, PE.less (pe_glob hg hm r hd) fun _ _ _ h => tC_of f h⟩

/-! ### a fresh list is locked -/
def svF : SV → SV
  | .own ds => .dat (.list ds)
  | r => r
def xFz (m : XE) : XE := fun env hs => match m env hs with
  | .ok (r, hs') => .ok (svF r, hs')
  | .exc c d hs' => .exc c d hs'
  | .stuck => .stuck
theorem inv_frz {pins : List (Addr × Obj)} {σ : L2.St} {H : Hp} {s : Shared} {a : Addr} {vs : List V} (I : Inv X pins σ H s) (h : H a = some (.lst vs)) : ∃ o, Inv X pins σ (upd H a (.frz o (.lst vs))) s := by
  have k := I.hok a _ h
  obtain ⟨z, its, n, r, e⟩ := k
  exact ⟨{ cls := .type "list", data := .seq its.toArray n }, I.write (o := .frz { cls := .type "list", data := .seq its.toArray n } (.lst vs)) (t' := s.toks) (h' := s.heap) (by rw [h]; trivial) (.inl rfl) (fun b u _ q => q) ⟨_, e⟩ ⟨e, z, its, n, r, e⟩⟩
theorem fz_upd {K : PySem.W.Frag} {H : Hp} {a : Addr} {o : HO} {vs : List V} (h : H a = some (.lst vs)) :
    (∀ {v : V} {d : D}, Fz K H v d → Fz K (upd H a o) v d) ∧ (∀ {ws : List V} {ds : List D}, FzA K H ws ds → FzA K (upd H a o) ws ds) := by
  have k : ∀ b u, H b = some u → (∀ z, u ≠ .lst z) → upd H a o b = some u := fun b u e n => by
    rw [upd_ne (fun q => by subst q; rw [h] at e; cases e; exact n _ rfl)]; exact e
  have st : ∀ {b xs}, SqT K H b xs → SqT K (upd H a o) b xs := fun {b xs} q => by
    rcases q with (q | ⟨o', q⟩) | q
    · exact .inl (.inl (k _ _ q fun _ z => nomatch z))
    · exact .inl (.inr ⟨o', k _ _ q fun _ z => nomatch z⟩)
    · exact .inr q
  have h1 : ∀ {v : V} {d : D}, Fz K H v d → Fz K (upd H a o) v d := fun {v d} q =>
    Fz.rec (motive_1 := fun v d _ => Fz K (upd H a o) v d) (motive_2 := fun vs ds _ => FzA K (upd H a o) vs ds) .non (fun b => .bl b) (fun b => .int b) (fun b q => .str b q)
      (fun e _ r => .lst (k _ _ e fun _ z => nomatch z) r) (fun e _ r => .tup (st e) r) .nil (fun _ _ a b => .cons a b) q
  refine ⟨h1, fun {ws ds} q => ?_⟩
  induction ws generalizing ds with
  | nil => cases q; exact .nil
  | cons w ws ih => cases q with | cons a b => exact .cons (h1 a) (ih b)
theorem ext_frz {ρ ρ' : List Addr} {H H' : Hp} {a : Addr} {o : HO} {vs : List V} (e : Ext ρ H ρ' H') (h0 : H a = none) (hn : a ∉ ρ') : Ext ρ H ρ' (upd H' a o) := by
  refine ⟨fun b u q => ?_, e.pre, e.new⟩
  rw [upd_ne (ne_of_none q h0)]
  exact e.sm b u q
theorem wd_upd {ρ : List Addr} {H : Hp} {hs : Hs} {a : Addr} {o : HO} {vs : List V} (w : Wd G ρ H hs) (h : H a = some (.lst vs)) (hn : a ∉ ρ) : Wd G ρ (upd H a o) hs := by
  refine ⟨w.len, w.nd, fun k b ds e1 e2 => ?_, ?_⟩
  · obtain ⟨ws, q1, q2⟩ := w.at_ k b ds e1 e2
    have hb : b ∈ ρ := List.mem_of_getElem? e1
    exact ⟨ws, by rw [upd_ne (show b ≠ a from fun z => hn (by rw [← z]; exact hb))]; exact q1, (fz_upd h).2 q2⟩
  · intro p hp
    obtain ⟨ps, e1, e2, e3⟩ := w.tabs p hp
    refine ⟨ps, by rw [upd_ne (fun z => by rw [z, h] at e1; cases e1)]; exact e1, e2, fun pos cv hc => ?_⟩
    obtain ⟨c, f1, f2⟩ := e3 pos cv hc
    exact ⟨c, f1, by rw [upd_ne (fun z => by rw [z, h] at f2; cases f2)]; exact f2⟩
theorem de_fz {m : XE} (h : DE X G E e m) : DE X G E e (xFz m) := by
  refine ⟨h.hK, ⟨fun pins s σ H Q I hq => ?_⟩⟩
  obtain ⟨ρ, env, hs, R, w, q⟩ := hq
  unfold xFz at q
  cases em : m env hs with
  | stuck => rw [em] at q; exact q.elim
  | exc c d hs' =>
    rw [em] at q
    exact h.pe.run pins s σ H Q I ⟨ρ, env, hs, R, w, by rw [em]; exact q⟩
  | ok p =>
    obtain ⟨r, hs'⟩ := p
    rw [em] at q
    cases r with
    | dat d => exact h.pe.run pins s σ H Q I ⟨ρ, env, hs, R, w, by rw [em]; exact q⟩
    | cell k => exact h.pe.run pins s σ H Q I ⟨ρ, env, hs, R, w, by rw [em]; exact q⟩
    | scr k => exact h.pe.run pins s σ H Q I ⟨ρ, env, hs, R, w, by rw [em]; exact q⟩
    | own ds =>
      refine thn (h.pe.run pins s σ H (fun v H' => ∃ ρ', Ext ρ H ρ' H' ∧ Wd G ρ' H' hs' ∧ RR G H ρ' H' v (.own ds)) I ⟨ρ, env, hs, R, w, by rw [em]; exact fun ρ' H' e1 w1 v r => ⟨ρ', e1, w1, r⟩⟩) fun u s' hh => ?_
      obtain ⟨v, H', I', rv, ρ', e1, w1, a, vs, rfl, h1, h0, hn, h2⟩ := hh
      obtain ⟨o, I2⟩ := inv_frz I' h1
      exact ⟨_, _, I2, rv, q ρ' _ (ext_frz (vs := vs) e1 h0 hn) (wd_upd w1 h1 hn) _ (.lst upd_same ((fz_upd h1).2 h2))⟩
/-- as borrowed -/
def svD : SV → Option D
  | .dat d => some d
  | .own ds => some (.list ds)
  | .cell _ => none
  | .scr _ => none
def xBo (m : XE) : XD := fun env hs => match m env hs with
  | .ok (r, hs') => match svD r with
    | some d => .ok (d, hs')
    | none => .stuck
  | .exc c d hs' => .exc c d hs'
  | .stuck => .stuck
theorem db_of {m : XE} (h : DE X G E e m) : DBo X G E e (xBo m) := by
  refine ⟨h.hK, PE.less h.pe fun σ H Q hq => ?_⟩
  obtain ⟨ρ, env, hs, R, w, q⟩ := hq
  refine ⟨ρ, env, hs, R, w, ?_⟩
  unfold xBo at q
  cases em : m env hs with
  | stuck => rw [em] at q; exact q.elim
  | exc c d hs' => rw [em] at q; exact q
  | ok p =>
    obtain ⟨r, hs'⟩ := p
    rw [em] at q
    cases r with
    | dat d => exact fun ρ' H' e1 w1 v rr => q ρ' H' e1 w1 v (.inl rr)
    | own ds => exact fun ρ' H' e1 w1 v ⟨a, vs, h1, h2, h0, h3, h4⟩ => q ρ' H' e1 w1 v (.inr ⟨a, vs, ds, h1, rfl, h2, h3, h4⟩)
    | cell k => exact q.elim
    | scr k => exact q.elim
end
end DL
set_option Elab.async false
set_option linter.all false
set_option maxRecDepth 100000
set_option maxHeartbeats 4000000
/-! DC: operators by values. -/
namespace DL
open PySem PySem.Spec PyProof.Rows L2 LamX

abbrev Grow (H H' : Hp) : Prop := ∀ a o, H a = some o → H' a = some o
theorem Grow.refl (H : Hp) : Grow H H := fun _ _ h => h
theorem grow_new {H : Hp} {p : Addr} {o : HO} (hp : H p = none) : Grow H (upd H p o) := fun a u e => by rw [upd_ne (ne_of_none e hp)]; exact e
/-- what an operation by values gives: data, or a new list -/
def RN (G : Gx) (H H' : Hp) (v : V) : SV → Prop
  | .dat d => Fz G.K H' v d
  | .own ds => ∃ a vs, v = .ref a ∧ H' a = some (.lst vs) ∧ H a = none ∧ FzA G.K H' vs ds
  | .cell _ => False
  | .scr _ => False
theorem RN.rr {G : Gx} {ρ : List Addr} {H H' : Hp} {hs : Hs} {v : V} {r : SV} (w : Wd G ρ H hs) (h : RN G H H' v r) : RR G H ρ H' v r := by
  cases r with
  | dat d => exact h
  | own ds =>
    obtain ⟨a, vs, h1, h2, h3, h4⟩ := h
    exact ⟨a, vs, h1, h2, h3, w.nin h3, h4⟩
  | cell k => exact h.elim
  | scr k => exact h.elim
abbrev Op2 := D → D → Option SV
def rB2 (G : Gx) (g : Op2) : R2 := fun x y H Q => ∃ ρ d e r, Br G.K ρ H x d ∧ Br G.K ρ H y e ∧ g d e = some r ∧ ∀ v H', Grow H H' → RN G H H' v r → Q v H'
structure OpB (X : Cx) (G : Gx) (f : Value → Value → Sem Value) (g : Op2) : Prop where
  hK : G.K = X.K
  op : OpR X f (rB2 G g)
theorem OpR.less {X : Cx} {f : Value → Value → Sem Value} {r r' : R2} (h : OpR X f r) (i : ∀ x y H Q, r' x y H Q → r x y H Q) : OpR X f r' := fun pins s σ H x y v u Q I rx ry q => h pins s σ H x y v u Q I rx ry (i x y H Q q)
theorem CallR.less {X : Cx} {f : Value} {r r' : List V → Hp → VK → Prop} (h : CallR X f r) (i : ∀ xs H Q, r' xs H Q → r xs H Q) : CallR X f r' := fun pins s σ H xs us Q I rx q => h pins s σ H xs us Q I rx (i xs H Q q)
theorem IxR.less {X : Cx} {r r' : R2} (h : IxR X r) (i : ∀ x y H Q, r' x y H Q → r x y H Q) : IxR X r' := fun a b pins s σ H x y v u Q I rx ry q hs => h a b pins s σ H x y v u Q I rx ry (i x y H Q q) hs
theorem SlR.less {X : Cx} {r r' : V → Option Int → Option Int → Hp → VK → Prop} (h : SlR X r) (i : ∀ x l u H Q, r' x l u H Q → r x l u H Q) : SlR X r' := fun pins s σ H x v vl vu lo hi sl Q I rx hs pl pu q => h pins s σ H x v vl vu lo hi sl Q I rx hs pl pu (i x lo hi H Q q)

/-! ### reading lists, tuples -/
section
variable {X : Cx} {pins : List (Addr × Obj)} {σ : L2.St} {H : Hp} {s : Shared} {a : Addr} {xs : List V}
theorem Inv.rdM (I : Inv X pins σ H s) (h : Rd H a (.lst xs)) : xs.length ≤ sizeLine ∧ ∃ (its : List Value) (n : Nat), Vals xs its ∧ xs.length = its.length ∧ s.heap.get? a = some { cls := .type "list", data := .seq its.toArray n } := by
  obtain ⟨z, its, n, r, e⟩ := h.ok I.hok
  exact ⟨z, its, n, r, r.length, e⟩
end
section
variable {K : PySem.W.Frag} {ρ : List Addr} {H : Hp} {v : V}
theorem Br.int {i : Int} (h : Br K ρ H v (.int i)) : v = .int i := by
  cases h.fz (fun _ z => nomatch z); rfl
theorem Br.bl {i : Bool} (h : Br K ρ H v (.bool i)) : v = .bl i := by
  cases h.fz (fun _ z => nomatch z); rfl
theorem Br.str {i : Str} (h : Br K ρ H v (.str i)) : v = .str i ∧ PyData.strOk i = true := by
  cases h.fz (fun _ z => nomatch z) with
  | str _ q => exact ⟨rfl, q⟩
theorem Br.non (h : Br K ρ H v .none) : v = .non := by
  cases h.fz (fun _ z => nomatch z); rfl
theorem Br.tup {ds : List D} (h : Br K ρ H v (.tuple ds)) : ∃ a vs, v = .ref a ∧ SqT K H a vs ∧ FzA K H vs ds := by
  cases h.fz (fun _ z => nomatch z) with
  | tup e r => exact ⟨_, _, rfl, e, r⟩
theorem Br.lay {d : D} (h : Br K ρ H v d) : d.canLay0 = true := by
  rcases h with h | ⟨a, vs, ds, rfl, rfl, h3, h4, h5⟩
  · exact h.lay
  · simp [PyData.canLay0, h5.lay]
end
theorem strOk_append {x y : Str} (a : PyData.strOk x = true) (b : PyData.strOk y = true) : PyData.strOk (x ++ y) = true := by
  show ((x.cps ++ y.cps).all _) = true
  rw [Array.all_append]
  exact Bool.and_eq_true_iff.mpr ⟨a, b⟩

/-! ### arithmetic -/
def addD : Op2
  | .int i, .int j => some (.dat (.int (i + j)))
  | .str x, .str y => if x.length + y.length ≤ sizeLine then some (.dat (.str (x ++ y))) else none
  | .list xs, .list ys => if xs.length + ys.length ≤ sizeLine then some (.own (xs ++ ys)) else none
  | .tuple xs, .tuple ys => if xs.length + ys.length ≤ sizeLine then some (.dat (.tuple (xs ++ ys))) else none
  | _, _ => none
def subD : Op2
  | .int i, .int j => some (.dat (.int (i - j)))
  | _, _ => none
def modD : Op2
  | .int i, .int j => if 0 < j then some (.dat (.int (i % j))) else none
  | _, _ => none
def fdivD : Op2
  | .int i, .int j => if 0 < j ∧ j.natAbs.log2 < 9000 then some (.dat (.int (i / j))) else none
  | _, _ => none
def mulD : Op2
  | .int i, .int j => if i.natAbs.log2 + j.natAbs.log2 < 1000000 then some (.dat (.int (i * j))) else none
  | _, _ => none
def powD : Op2
  | .int i, .int j => if 0 ≤ j ∧ j ≤ 1000000 ∧ i.natAbs < 2 ^ 64 then some (.dat (.int (i ^ j.toNat))) else none
  | _, _ => none
section
variable {X : Cx} {G : Gx}
theorem op_catR : OpR X (binaryOp .Add) (fun x y H Q => ∃ l b xs zs, x = .ref l ∧ y = .ref b ∧ Rd H l (.lst xs) ∧ Rd H b (.lst zs) ∧ xs.length + zs.length ≤ sizeLine ∧ ∀ p, H p = none → Q (.ref p) (upd H p (.lst (xs ++ zs)))) := by
  intro pins s σ H x y v u Q I rx ry h
  obtain ⟨l, b, xs, zs, rfl, rfl, hH, hB, hz, q⟩ := h
  cases rx
  cases ry
  obtain ⟨z, its, n, r, hl, e⟩ := Inv.rdM I hH
  obtain ⟨z2, its2, n2, r2, hl2, e2⟩ := Inv.rdM I hB
  refine PySem.P.add_list e e2 ?_ (by rw [List.size_toArray, List.size_toArray]; omega)
  have ea : its.toArray ++ its2.toArray = (its ++ its2).toArray := by simp
  rw [ea]
  exact ⟨.ref _, _, I.lnew (t' := s.toks) (r.append r2) (by rw [List.length_append]; omega), rfl, q _ I.fresh⟩
theorem fzA_new {K : PySem.W.Frag} {H : Hp} {p : Addr} {o : HO} (hp : H p = none) {vs : List V} {ds : List D} (h : FzA K H vs ds) : FzA K (upd H p o) vs ds := FzA.mono (SmC.ofAll (ρ := []) (grow_new hp)) h
theorem fz_new {K : PySem.W.Frag} {H : Hp} {p : Addr} {o : HO} (hp : H p = none) {v : V} {d : D} (h : Fz K H v d) : Fz K (upd H p o) v d := Fz.mono (SmC.ofAll (ρ := []) (grow_new hp)) h
theorem rn_own {H : Hp} {p : Addr} {vs : List V} {ds : List D} (hp : H p = none) (h : FzA G.K H vs ds) : RN G H (upd H p (.lst vs)) (.ref p) (.own ds) := ⟨p, vs, rfl, upd_same, hp, fzA_new hp h⟩
theorem rn_tup {H : Hp} {p : Addr} {vs : List V} {ds : List D} (hp : H p = none) (h : FzA G.K H vs ds) : RN G H (upd H p (.tup vs)) (.ref p) (.dat (.tuple ds)) := .tup (.inl (.inl upd_same)) (fzA_new hp h)
theorem ob_add (hK : G.K = X.K := by rfl) : OpB X G (binaryOp .Add) addD := by
  refine ⟨hK, OpR.less (op_add.or (op_add_str.or (op_catR.or op_catA))) fun x y H Q h => ?_⟩
  obtain ⟨ρ, d, e, r, hd, he, hg, q⟩ := h
  unfold addD at hg
  split at hg
  · cases hg
    exact .inl ⟨_, _, hd.int, he.int, q _ H (Grow.refl _) (.int _)⟩
  · split at hg
    · rename_i hz
      cases hg
      obtain ⟨h1, h2⟩ := hd.str
      obtain ⟨h3, h4⟩ := he.str
      exact .inr (.inl ⟨_, _, h1, h3, hz, q _ H (Grow.refl _) (.str _ (strOk_append h2 h4))⟩)
    · cases hg
  · split at hg
    · rename_i hz
      cases hg
      obtain ⟨a, vs, rfl, h1, h2⟩ := hd.lst
      obtain ⟨b, ws, rfl, h3, h4⟩ := he.lst
      exact .inr (.inr (.inl ⟨a, b, vs, ws, rfl, rfl, h1, h3, by rw [h2.length, h4.length]; exact hz, fun p hp => q _ _ (grow_new hp) (rn_own hp (h2.append h4))⟩))
    · cases hg
  · split at hg
    · rename_i hz
      cases hg
      obtain ⟨a, vs, rfl, h1, h2⟩ := hd.tup
      obtain ⟨b, ws, rfl, h3, h4⟩ := he.tup
      refine .inr (.inr (.inr ⟨a, b, vs, ws, rfl, rfl, by rw [← hK]; exact h1, by rw [← hK]; exact h3, by rw [h2.length, h4.length]; exact hz, fun e => ?_, fun _ e => ?_, fun _ _ p hp => q _ _ (grow_new hp) (rn_tup hp (h2.append h4))⟩))
      · subst e
        cases h2
        exact q _ H (Grow.refl _) (.tup h3 h4)
      · subst e
        cases h4
        rw [List.append_nil] at q
        exact q _ H (Grow.refl _) (.tup h1 h2)
    · cases hg
  · cases hg
theorem ob_sub (hK : G.K = X.K := by rfl) : OpB X G (binaryOp .Sub) subD := by
  refine ⟨hK, OpR.less op_sub fun x y H Q h => ?_⟩
  obtain ⟨ρ, d, e, r, hd, he, hg, q⟩ := h
  unfold subD at hg
  split at hg
  · cases hg; exact ⟨_, _, hd.int, he.int, q _ H (Grow.refl _) (.int _)⟩
  · cases hg
theorem ob_mod (hK : G.K = X.K := by rfl) : OpB X G (binaryOp .Mod) modD := by
  refine ⟨hK, OpR.less op_mod fun x y H Q h => ?_⟩
  obtain ⟨ρ, d, e, r, hd, he, hg, q⟩ := h
  unfold modD at hg
  split at hg
  · split at hg
    · rename_i hz
      cases hg; exact ⟨_, _, hd.int, he.int, hz, q _ H (Grow.refl _) (.int _)⟩
    · cases hg
  · cases hg
theorem ob_fdiv (hK : G.K = X.K := by rfl) : OpB X G (binaryOp .FloorDiv) fdivD := by
  refine ⟨hK, OpR.less op_fdivW fun x y H Q h => ?_⟩
  obtain ⟨ρ, d, e, r, hd, he, hg, q⟩ := h
  unfold fdivD at hg
  split at hg
  · split at hg
    · rename_i hz
      cases hg; exact ⟨_, _, hd.int, he.int, hz, q _ H (Grow.refl _) (.int _)⟩
    · cases hg
  · cases hg
theorem ob_mul (hK : G.K = X.K := by rfl) : OpB X G (binaryOp .Mult) mulD := by
  refine ⟨hK, OpR.less op_mulW fun x y H Q h => ?_⟩
  obtain ⟨ρ, d, e, r, hd, he, hg, q⟩ := h
  unfold mulD at hg
  split at hg
  · split at hg
    · rename_i hz
      cases hg; exact ⟨_, _, hd.int, he.int, hz, q _ H (Grow.refl _) (.int _)⟩
    · cases hg
  · cases hg
theorem ob_pow (hK : G.K = X.K := by rfl) : OpB X G (binaryOp .Pow) powD := by
  refine ⟨hK, OpR.less op_pow fun x y H Q h => ?_⟩
  obtain ⟨ρ, d, e, r, hd, he, hg, q⟩ := h
  unfold powD at hg
  split at hg
  · split at hg
    · rename_i hz
      cases hg; exact ⟨_, _, hd.int, he.int, hz, q _ H (Grow.refl _) (.int _)⟩
    · cases hg
  · cases hg

/-! ### comparisons -/
def okB (b : Bool) : Option SV := some (.dat (.bool b))
def eqD : Op2 := fun d e => if min d.depth e.depth ≤ 64 then okB (PyData.eqv d e) else none
def neD : Op2 := fun d e => if min d.depth e.depth ≤ 64 then okB (!PyData.eqv d e) else none
theorem br_reads {pins : List (Addr × Obj)} {σ : L2.St} {H : Hp} {s : Shared} {ρ : List Addr} {x : V} {u : Value} {d : D} (I : Inv X pins σ H s) (hK : G.K = X.K) (h : Br G.K ρ H x d) (r : RelV x u) : ∃ as, Reads s.heap u d as :=
  Dp.reads I d x u (by rw [← hK]; exact h.dp) r
theorem ob_eq (hu : X.A.units + 64 < cLine) (hK : G.K = X.K := by rfl) : OpB X G (compareOp .Eq) eqD := by
  refine ⟨hK, fun pins s σ H x y v u Q I rx ry h => ?_⟩
  obtain ⟨ρ, d, e, r, hd, he, hg, q⟩ := h
  obtain ⟨as, r1⟩ := br_reads I hK hd rx
  obtain ⟨bs, r2⟩ := br_reads I hK he ry
  unfold eqD at hg
  split at hg
  · rename_i hz
    cases hg
    exact SeqAt.compareEq_reads r1 r2 hd.lay he.lay (by omega) ⟨.bl _, H, I, rfl, q _ H (Grow.refl _) (.bl _)⟩
  · cases hg
theorem ob_ne (hu : X.A.units + 64 < cLine) (hK : G.K = X.K := by rfl) : OpB X G (compareOp .NotEq) neD := by
  refine ⟨hK, fun pins s σ H x y v u Q I rx ry h => ?_⟩
  obtain ⟨ρ, d, e, r, hd, he, hg, q⟩ := h
  obtain ⟨as, r1⟩ := br_reads I hK hd rx
  obtain ⟨bs, r2⟩ := br_reads I hK he ry
  unfold neD at hg
  split at hg
  · rename_i hz
    cases hg
    exact SeqAt.compareNe_reads r1 r2 hd.lay he.lay (by omega) ⟨.bl _, H, I, rfl, q _ H (Grow.refl _) (.bl _)⟩
  · cases hg
def ltD : Op2
  | .int i, .int j => okB (decide (i < j))
  | .str x, .str y => okB (decide (x.cps.toList < y.cps.toList))
  | _, _ => none
def gtD : Op2
  | .int i, .int j => okB (decide (j < i))
  | .str x, .str y => okB (decide (y.cps.toList < x.cps.toList))
  | _, _ => none
def leD : Op2
  | .int i, .int j => okB (decide (i ≤ j))
  | _, _ => none
def geD : Op2
  | .int i, .int j => okB (decide (j ≤ i))
  | _, _ => none
theorem ob_lt (hK : G.K = X.K := by rfl) : OpB X G (compareOp .Lt) ltD := by
  refine ⟨hK, OpR.less (op_lt.or op_lt_str) fun x y H Q h => ?_⟩
  obtain ⟨ρ, d, e, r, hd, he, hg, q⟩ := h
  unfold ltD at hg
  split at hg
  · cases hg; exact .inl ⟨_, _, hd.int, he.int, q _ H (Grow.refl _) (.bl _)⟩
  · cases hg; exact .inr ⟨_, _, hd.str.1, he.str.1, q _ H (Grow.refl _) (.bl _)⟩
  · cases hg
theorem ob_gt (hK : G.K = X.K := by rfl) : OpB X G (compareOp .Gt) gtD := by
  refine ⟨hK, OpR.less (op_gt.or op_gt_str) fun x y H Q h => ?_⟩
  obtain ⟨ρ, d, e, r, hd, he, hg, q⟩ := h
  unfold gtD at hg
  split at hg
  · cases hg; exact .inl ⟨_, _, hd.int, he.int, q _ H (Grow.refl _) (.bl _)⟩
  · cases hg; exact .inr ⟨_, _, hd.str.1, he.str.1, q _ H (Grow.refl _) (.bl _)⟩
  · cases hg
theorem ob_le (hK : G.K = X.K := by rfl) : OpB X G (compareOp .LtE) leD := by
  refine ⟨hK, OpR.less op_le fun x y H Q h => ?_⟩
  obtain ⟨ρ, d, e, r, hd, he, hg, q⟩ := h
  unfold leD at hg
  split at hg
  · cases hg; exact ⟨_, _, hd.int, he.int, q _ H (Grow.refl _) (.bl _)⟩
  · cases hg
theorem ob_ge (hK : G.K = X.K := by rfl) : OpB X G (compareOp .GtE) geD := by
  refine ⟨hK, OpR.less op_ge fun x y H Q h => ?_⟩
  obtain ⟨ρ, d, e, r, hd, he, hg, q⟩ := h
  unfold geD at hg
  split at hg
  · cases hg; exact ⟨_, _, hd.int, he.int, q _ H (Grow.refl _) (.bl _)⟩
  · cases hg
end
end DL
set_option Elab.async false
set_option linter.all false
set_option maxRecDepth 100000
set_option maxHeartbeats 4000000
/-! DD: expressions that are made of expressions; tests; arguments. -/
namespace DL
open PySem PySem.Spec PyProof.Rows L2 LamX

def liftO {α : Type} (o : Option α) (hs : Hs) : Res (α × Hs) := match o with
  | some r => .ok (r, hs)
  | none => .stuck
theorem out_lift {G : Gx} {E : XK} {ρ : List Addr} {H : Hp} {α : Type} {o : Option α} {hs : Hs} {Q : α → List Addr → Hs → Hp → Prop} (h : Out G E ρ H (liftO o hs) Q) :
    ∃ r, o = some r ∧ ∀ ρ' H', Ext ρ H ρ' H' → Wd G ρ' H' hs → Q r ρ' hs H' := by
  cases o with
  | none => exact h.elim
  | some r => exact ⟨r, rfl, h⟩

section
variable {X : Cx} {G : Gx} {E : XK} {a b c e : Expr} {es : List Expr} {pos : Pos} {ma mb mc : XD} {m : XE}

theorem DBo.use (h : DBo X G E a ma) : PE X a (tB G E ma) := h.pe
/-- a borrowed operand, used: what is left is asked at the heap behind it -/
theorem tB_seq {σ : L2.St} {H : Hp} {ρ : List Addr} {env : Envd} {hs : Hs} {β : Type} {f : D → Hs → Res (β × Hs)} {Qf : β → List Addr → Hs → Hp → Prop} {Q : VK} (R : SR G ρ H σ env) (w : Wd G ρ H hs)
    (h : Out G E ρ H (andThen (ma env hs) f) Qf) (k : ∀ d ρ1 hs1 H1, Ext ρ H ρ1 H1 → Wd G ρ1 H1 hs1 → Out G E ρ1 H1 (f d hs1) Qf → ∀ v, Br G.K ρ1 H1 v d → Q v H1) : tB G E ma σ H Q := by
  refine ⟨ρ, env, hs, R, w, Out.imp h.seq fun d hs1 ρ1 H1 em e1 w1 q v br => ?_⟩
  exact k d ρ1 hs1 H1 e1 w1 q v br
theorem tD_seq {σ : L2.St} {H : Hp} {ρ : List Addr} {env : Envd} {hs : Hs} {β : Type} {f : SV → Hs → Res (β × Hs)} {Qf : β → List Addr → Hs → Hp → Prop} {Q : VK} (R : SR G ρ H σ env) (w : Wd G ρ H hs)
    (h : Out G E ρ H (andThen (m env hs) f) Qf) (k : ∀ r ρ1 hs1 H1, Ext ρ H ρ1 H1 → Wd G ρ1 H1 hs1 → Out G E ρ1 H1 (f r hs1) Qf → ∀ v, RR G H ρ1 H1 v r → Q v H1) : tD G E m σ H Q := by
  refine ⟨ρ, env, hs, R, w, Out.imp h.seq fun d hs1 ρ1 H1 em e1 w1 q v br => ?_⟩
  exact k d ρ1 hs1 H1 e1 w1 q v br

/-! ### two operands -/
def xBin (g : Op2) (ma mb : XD) : XE := fun env hs => andThen (ma env hs) fun d hs1 => andThen (mb env hs1) fun e hs2 => liftO (g d e) hs2
theorem rr_ext0 {H₀ H H' : Hp} {ρ ρ1 ρ' : List Addr} {v : V} {r : SV} (e : Ext ρ H₀ ρ1 H) (h : RR G H ρ' H' v r) : RR G H₀ ρ' H' v r := by
  cases r with
  | dat d => exact h
  | own ds =>
    obtain ⟨a, vs, h1, h2, h3, h4⟩ := h
    exact ⟨a, vs, h1, h2, e.none h3, h4⟩
  | cell k => exact h
  | scr k => exact h
theorem bin_less {f : Value → Value → Sem Value} {g : Op2} {σ : L2.St} {H : Hp} {Q : VK} (h : tD G E (xBin g ma mb) σ H Q) : tOp (rB2 G g) (tB G E ma) (tB G E mb) σ H Q := by
  obtain ⟨ρ, env, hs, R, w, q⟩ := h
  refine tB_seq R w q fun d ρ1 hs1 H1 e1 w1 q1 v br => ?_
  refine tB_seq (R.ext e1) w1 q1 fun e ρ2 hs2 H2 e2 w2 q2 v2 br2 => ?_
  obtain ⟨r, hr, q3⟩ := out_lift q2
  exact ⟨ρ2, d, e, r, br.ext e2, br2, hr, fun v3 H3 g3 rn => q3 ρ2 H3 (.ofAll g3) (w2.ofAll g3) v3 (rr_ext0 (e1.trans e2) (rn.rr w2))⟩
theorem de_bin {op : Operator} {g : Op2} (ho : OpB X G (binaryOp op) g) (ha : DBo X G E a ma) (hb : DBo X G E b mb) : DE X G E (.BinOp a op b pos) (xBin g ma mb) :=
  ⟨ho.hK, PE.less (pe_op ho.op ha.pe hb.pe) fun σ H Q h => bin_less (f := binaryOp op) h⟩
theorem de_cmp {op : CmpOp} {g : Op2} (ho : OpB X G (compareOp op) g) (ha : DBo X G E a ma) (hb : DBo X G E b mb) (hm : behindInMarks op b = false := by first | exact nobehind _ (by decide) (by decide) | rfl) :
    DE X G E (.Compare a [op] [b] pos) (xBin g ma mb) :=
  ⟨ho.hK, PE.less (pe_cmpR ho.op ha.pe hb.pe hm) fun σ H Q h => bin_less (f := compareOp op) h⟩
/-- a result that is a truth -/
def asB (r : SV) : Option Bool := match r with
  | .dat (.bool b) => some b
  | _ => none
def xTst (m : XE) : XB := fun env hs => andThen (m env hs) fun r hs1 => liftO (asB r) hs1
theorem asB_some {r : SV} {k : Bool} (h : asB r = some k) : r = .dat (.bool k) := by
  unfold asB at h
  split at h
  · cases h; rfl
  · cases h
theorem tst_less {t : TE} {σ : L2.St} {H : Hp} {Q : Bool → Hp → Prop} (i : ∀ Q, tD G E m σ H Q → t σ H Q) (h : tT G E (xTst m) σ H Q) : t σ H fun x H1 => ∃ k, x = .bl k ∧ Q k H1 := by
  obtain ⟨ρ, env, hs, R, w, q⟩ := h
  refine i _ (tD_seq R w q fun r ρ1 hs1 H1 e1 w1 q1 v rr => ?_)
  obtain ⟨k, hk, q2⟩ := out_lift q1
  have e := asB_some hk
  subst e
  cases (show Fz G.K H1 v (.bool k) from rr)
  exact ⟨k, rfl, q2 ρ1 H1 (Ext.refl _ _) w1⟩
theorem dt_cmp {op : CmpOp} {g : Op2} (ho : OpB X G (compareOp op) g) (ha : DBo X G E a ma) (hb : DBo X G E b mb) (hm : behindInMarks op b = false := by first | exact nobehind _ (by decide) (by decide) | rfl) :
    DT X G E (.Compare a [op] [b] pos) (xTst (xBin g ma mb)) :=
  ⟨ho.hK, PT.less (pt_cmpR ho.op ha.pe hb.pe hm) fun σ H Q h => tst_less (fun Q h => bin_less (f := compareOp op) h) h⟩
theorem dt_val (h : DE X G E e m) (he : ∀ whole, isTrue e X.env whole = (do let v ← whole; standAt e.pos; holding [v] (truthy v)) := by intro _; rfl) : DT X G E e (xTst m) :=
  ⟨h.hK, PT.less (pt_val h.pe he) fun σ H Q q => tst_less (fun _ q => q) q⟩

/-! ### chains -/
def xCh2 (g g' : Op2) (ma mb mc : XD) : XE := fun env hs => andThen (ma env hs) fun d hs1 => andThen (mb env hs1) fun e hs2 => andThen (liftO ((g d e).bind asB) hs2) fun k hs3 =>
  if k = true then andThen (mc env hs3) fun f hs4 => liftO (g' e f) hs4 else .ok (.dat (.bool false), hs3)
theorem ch2_less {g g' : Op2} {σ : L2.St} {H : Hp} {Q : VK} (h : tD G E (xCh2 g g' ma mb mc) σ H Q) : tChain (rB2 G g) (rB2 G g') (tB G E ma) (tB G E mb) (tB G E mc) σ H Q := by
  obtain ⟨ρ, env, hs, R, w, q⟩ := h
  refine tB_seq R w q fun d ρ1 hs1 H1 e1 w1 q1 v br => ?_
  refine tB_seq (R.ext e1) w1 q1 fun e ρ2 hs2 H2 e2 w2 q2 v2 br2 => ?_
  obtain ⟨k, hk, q3⟩ := out_lift q2.seq
  obtain ⟨r, hr, hk⟩ := Option.bind_eq_some_iff.mp hk
  have er := asB_some hk
  subst er
  refine ⟨ρ2, d, e, _, br.ext e2, br2, hr, fun v3 H3 g3 rn => ?_⟩
  cases (show Fz G.K H3 v3 (.bool k) from rn)
  refine ⟨k, rfl, ?_⟩
  have w3 := w2.ofAll g3
  have e3 : Ext ρ2 H2 ρ2 H3 := .ofAll g3
  have q4 := q3 ρ2 H3 e3 w3
  cases k with
  | true =>
    rw [if_pos rfl] at q4 ⊢
    refine tB_seq (R.ext (e1.trans (e2.trans e3))) w3 q4 fun f ρ4 hs4 H4 e4 w4 q5 v4 br4 => ?_
    obtain ⟨r, hr, q6⟩ := out_lift q5
    exact ⟨ρ4, e, f, r, (br2.ext e3).ext e4, br4, hr, fun v5 H5 g5 rn => q6 ρ4 H5 (.ofAll g5) (w4.ofAll g5) v5 (rr_ext0 (e1.trans (e2.trans (e3.trans e4))) (rn.rr w4))⟩
  | false =>
    rw [if_neg Bool.false_ne_true] at q4 ⊢
    exact q4 ρ2 H3 (Ext.refl _ _) w3 _ (.bl _)
theorem de_ch2 {op op' : CmpOp} {g g' : Op2} (ho : OpB X G (compareOp op) g) (ho' : OpB X G (compareOp op') g') (ha : DBo X G E a ma) (hb : DBo X G E b mb) (hc : DBo X G E c mc) (hm : lastMarks [op, op'] [b, c] = false := by rfl) :
    DE X G E (.Compare a [op, op'] [b, c] pos) (xCh2 g g' ma mb mc) :=
  ⟨ho.hK, PE.less (pe_chain ho.op ho'.op ha.pe hb.pe hc.pe hm) fun σ H Q h => ch2_less h⟩
theorem dt_ch2 {op op' : CmpOp} {g g' : Op2} (ho : OpB X G (compareOp op) g) (ho' : OpB X G (compareOp op') g') (ha : DBo X G E a ma) (hb : DBo X G E b mb) (hc : DBo X G E c mc) (hm : lastMarks [op, op'] [b, c] = false := by rfl) :
    DT X G E (.Compare a [op, op'] [b, c] pos) (xTst (xCh2 g g' ma mb mc)) :=
  ⟨ho.hK, PT.less (pt_chain ho.op ho'.op ha.pe hb.pe hc.pe hm) fun σ H Q h => tst_less (fun Q h => ch2_less h) h⟩

/-! ### is None -/
def isNo (d : D) : Bool := match d with
  | .none => true
  | _ => false
def xIsN (neg : Bool) (ma : XD) : XE := fun env hs => andThen (ma env hs) fun d hs1 => .ok (.dat (.bool (isNo d ^^ neg)), hs1)
theorem br_non {ρ : List Addr} {H : Hp} {v : V} {d : D} (h : Br G.K ρ H v d) : decide (v = .non) = isNo d := by
  rcases h with h | ⟨a, vs, ds, rfl, rfl, h3, h4, h5⟩
  · cases h <;> rfl
  · rfl
theorem de_isN {j : Nat} {p : Pos} (ha : DBo X G E a ma) : DE X G E (.Compare a [.Is] [.Constant .none j p] pos) (xIsN false ma) := by
  refine ⟨ha.hK, PE.less (pe_cmp (pc_isN ha.pe)) fun σ H Q h => ?_⟩
  obtain ⟨ρ, env, hs, R, w, q⟩ := h
  refine tB_seq R w q fun d ρ1 hs1 H1 e1 w1 q1 v br => ?_
  rw [br_non br]
  have := q1 ρ1 H1 (Ext.refl _ _) w1 (.bl (isNo d)) (by simp only [Bool.xor_false]; exact .bl _)
  exact this
theorem de_notN {j : Nat} {p : Pos} (ha : DBo X G E a ma) : DE X G E (.Compare a [.IsNot] [.Constant .none j p] pos) (xIsN true ma) := by
  refine ⟨ha.hK, PE.less (pe_cmp (pc_notN ha.pe)) fun σ H Q h => ?_⟩
  obtain ⟨ρ, env, hs, R, w, q⟩ := h
  refine tB_seq R w q fun d ρ1 hs1 H1 e1 w1 q1 v br => ?_
  rw [br_non br]
  have := q1 ρ1 H1 (Ext.refl _ _) w1 (.bl (!isNo d)) (by simp only [Bool.xor_true]; exact .bl _)
  exact this
theorem dt_isN {j : Nat} {p : Pos} (ha : DBo X G E a ma) : DT X G E (.Compare a [.Is] [.Constant .none j p] pos) (xTst (xIsN false ma)) := by
  refine ⟨ha.hK, PT.less (pt_cmp (pc_isN ha.pe)) fun σ H Q h => tst_less (m := xIsN false ma) (fun Q h => ?_) h⟩
  obtain ⟨ρ, env, hs, R, w, q⟩ := h
  refine tB_seq R w q fun d ρ1 hs1 H1 e1 w1 q1 v br => ?_
  rw [br_non br]
  have := q1 ρ1 H1 (Ext.refl _ _) w1 (.bl (isNo d)) (by simp only [Bool.xor_false]; exact .bl _)
  exact this
theorem dt_notN {j : Nat} {p : Pos} (ha : DBo X G E a ma) : DT X G E (.Compare a [.IsNot] [.Constant .none j p] pos) (xTst (xIsN true ma)) := by
  refine ⟨ha.hK, PT.less (pt_cmp (pc_notN ha.pe)) fun σ H Q h => tst_less (m := xIsN true ma) (fun Q h => ?_) h⟩
  obtain ⟨ρ, env, hs, R, w, q⟩ := h
  refine tB_seq R w q fun d ρ1 hs1 H1 e1 w1 q1 v br => ?_
  rw [br_non br]
  have := q1 ρ1 H1 (Ext.refl _ _) w1 (.bl (!isNo d)) (by simp only [Bool.xor_true]; exact .bl _)
  exact this

/-! ### not, and, or; a if t else b -/
def xNot (t : XB) : XB := fun env hs => andThen (t env hs) fun k hs1 => .ok (!k, hs1)
def xAnd (t u : XB) : XB := fun env hs => andThen (t env hs) fun k hs1 => if k = true then u env hs1 else .ok (false, hs1)
def xOr (t u : XB) : XB := fun env hs => andThen (t env hs) fun k hs1 => if k = true then .ok (true, hs1) else u env hs1
theorem tT_seq {t : XB} {σ : L2.St} {H : Hp} {ρ : List Addr} {env : Envd} {hs : Hs} {β : Type} {f : Bool → Hs → Res (β × Hs)} {Qf : β → List Addr → Hs → Hp → Prop} {Q : Bool → Hp → Prop} (R : SR G ρ H σ env) (w : Wd G ρ H hs)
    (h : Out G E ρ H (andThen (t env hs) f) Qf) (k : ∀ r ρ1 hs1 H1, Ext ρ H ρ1 H1 → Wd G ρ1 H1 hs1 → Out G E ρ1 H1 (f r hs1) Qf → Q r H1) : tT G E t σ H Q := by
  refine ⟨ρ, env, hs, R, w, Out.imp h.seq fun d hs1 ρ1 H1 em e1 w1 q => ?_⟩
  exact k d ρ1 hs1 H1 e1 w1 q
structure DW (X : Cx) (G : Gx) (E : XK) (e : Expr) (m : XB) : Prop where
  hK : G.K = X.K
  pw : PW X e (tT G E m)
theorem DW.dt {t : XB} (h : DW X G E e t) : DT X G E e t := ⟨h.hK, h.pw.pt⟩
theorem PW.less {e : Expr} {t t' : TT} (h : PW X e t) (i : ∀ σ H Q, t' σ H Q → t σ H Q) : PW X e t' := ⟨fun wh pins s σ H Q I q => h.run wh pins s σ H Q I (i σ H Q q)⟩
variable {t u : XB}
theorem dt_not (h : DT X G E a t) : DT X G E (.UnaryOp .Not a pos) (xNot t) := by
  refine ⟨h.hK, PT.less (pt_not h.pt) fun σ H Q q => ?_⟩
  obtain ⟨ρ, env, hs, R, w, q⟩ := q
  exact tT_seq R w q fun k ρ1 hs1 H1 e1 w1 q1 => q1 ρ1 H1 (Ext.refl _ _) w1
theorem dw_and1 (h : DT X G E a t) : DW X G E (.BoolOp .And [a] pos) t := ⟨h.hK, pw_and1 h.pt⟩
theorem dw_or1 (h : DT X G E a t) : DW X G E (.BoolOp .Or [a] pos) t := ⟨h.hK, pw_or1 h.pt⟩
theorem dw_and (h : DT X G E a t) (h2 : DW X G E (.BoolOp .And (b :: es) pos) u) : DW X G E (.BoolOp .And (a :: b :: es) pos) (xAnd t u) := by
  refine ⟨h.hK, PW.less (pw_and h.pt h2.pw) fun σ H Q q => ?_⟩
  obtain ⟨ρ, env, hs, R, w, q⟩ := q
  refine tT_seq R w q fun k ρ1 hs1 H1 e1 w1 q1 => ?_
  cases k with
  | true => rw [if_pos rfl] at q1 ⊢; exact ⟨ρ1, env, hs1, R.ext e1, w1, q1⟩
  | false => rw [if_neg Bool.false_ne_true] at q1 ⊢; exact q1 ρ1 H1 (Ext.refl _ _) w1
theorem dw_or (h : DT X G E a t) (h2 : DW X G E (.BoolOp .Or (b :: es) pos) u) : DW X G E (.BoolOp .Or (a :: b :: es) pos) (xOr t u) := by
  refine ⟨h.hK, PW.less (pw_or h.pt h2.pw) fun σ H Q q => ?_⟩
  obtain ⟨ρ, env, hs, R, w, q⟩ := q
  refine tT_seq R w q fun k ρ1 hs1 H1 e1 w1 q1 => ?_
  cases k with
  | true => rw [if_pos rfl] at q1 ⊢; exact q1 ρ1 H1 (Ext.refl _ _) w1
  | false => rw [if_neg Bool.false_ne_true] at q1 ⊢; exact ⟨ρ1, env, hs1, R.ext e1, w1, q1⟩
/-- as values: all are truths -/
def xVal (t : XB) : XE := fun env hs => andThen (t env hs) fun k hs1 => .ok (.dat (.bool k), hs1)
def xAndV (m m' : XE) : XE := fun env hs => andThen (m env hs) fun r hs1 => andThen (liftO (asB r) hs1) fun k hs2 => if k = true then m' env hs2 else .ok (.dat (.bool false), hs2)
def xOrV (m m' : XE) : XE := fun env hs => andThen (m env hs) fun r hs1 => andThen (liftO (asB r) hs1) fun k hs2 => if k = true then .ok (.dat (.bool true), hs2) else m' env hs2
def xNotV (m : XE) : XE := fun env hs => andThen (m env hs) fun r hs1 => andThen (liftO (asB r) hs1) fun k hs2 => .ok (.dat (.bool (!k)), hs2)
variable {m' : XE}
theorem tD_seqB {σ : L2.St} {H : Hp} {ρ : List Addr} {env : Envd} {hs : Hs} {β : Type} {f : Bool → Hs → Res (β × Hs)} {Qf : β → List Addr → Hs → Hp → Prop} {Q : VK} (R : SR G ρ H σ env) (w : Wd G ρ H hs)
    (h : Out G E ρ H (andThen (m env hs) fun r hs1 => andThen (liftO (asB r) hs1) f) Qf) (k : ∀ r ρ1 hs1 H1, Ext ρ H ρ1 H1 → Wd G ρ1 H1 hs1 → Out G E ρ1 H1 (f r hs1) Qf → Q (.bl r) H1) : tD G E m σ H Q := by
  refine tD_seq R w h fun r ρ1 hs1 H1 e1 w1 q1 v rr => ?_
  obtain ⟨b, hb, q2⟩ := out_lift q1.seq
  have e := asB_some hb
  subst e
  cases (show Fz G.K H1 v (.bool b) from rr)
  exact k b ρ1 hs1 H1 e1 w1 (q2 ρ1 H1 (Ext.refl _ _) w1)
theorem de_one {op : BoolOp} (h : DE X G E a m) : DE X G E (.BoolOp op [a] pos) m := ⟨h.hK, pe_one h.pe⟩
theorem tD_of {σ : L2.St} {H H1 : Hp} {ρ ρ1 : List Addr} {env : Envd} {hs1 : Hs} {Q : VK} (R : SR G ρ H σ env) (e1 : Ext ρ H ρ1 H1) (w1 : Wd G ρ1 H1 hs1)
    (h : Out G E ρ1 H1 (m env hs1) fun r ρ' _ H' => ∀ v, RR G H ρ' H' v r → Q v H') : tD G E m σ H1 Q :=
  ⟨ρ1, env, hs1, R.ext e1, w1, Out.imp h fun r hs2 ρ2 H2 em e2 w2 q v rr => q v (rr_ext0 e1 rr)⟩
theorem de_and (h : DE X G E a m) (h2 : DE X G E (.BoolOp .And (b :: es) pos) m') : DE X G E (.BoolOp .And (a :: b :: es) pos) (xAndV m m') := by
  refine ⟨h.hK, PE.less (pe_and h.pe h2.pe) fun σ H Q q => ?_⟩
  obtain ⟨ρ, env, hs, R, w, q⟩ := q
  refine tD_seqB R w q fun k ρ1 hs1 H1 e1 w1 q1 => ⟨k, rfl, ?_⟩
  cases k with
  | true => rw [if_pos rfl] at q1 ⊢; exact tD_of R e1 w1 q1
  | false => rw [if_neg Bool.false_ne_true] at q1 ⊢; exact q1 ρ1 H1 (Ext.refl _ _) w1 _ (.bl _)
theorem de_or (h : DE X G E a m) (h2 : DE X G E (.BoolOp .Or (b :: es) pos) m') : DE X G E (.BoolOp .Or (a :: b :: es) pos) (xOrV m m') := by
  refine ⟨h.hK, PE.less (pe_or h.pe h2.pe) fun σ H Q q => ?_⟩
  obtain ⟨ρ, env, hs, R, w, q⟩ := q
  refine tD_seqB R w q fun k ρ1 hs1 H1 e1 w1 q1 => ⟨k, rfl, ?_⟩
  cases k with
  | true => rw [if_pos rfl] at q1 ⊢; exact q1 ρ1 H1 (Ext.refl _ _) w1 _ (.bl _)
  | false => rw [if_neg Bool.false_ne_true] at q1 ⊢; exact tD_of R e1 w1 q1
theorem de_not (h : DE X G E a m) : DE X G E (.UnaryOp .Not a pos) (xNotV m) := by
  refine ⟨h.hK, PE.less (pe_not h.pe) fun σ H Q q => ?_⟩
  obtain ⟨ρ, env, hs, R, w, q⟩ := q
  exact tD_seqB R w q fun k ρ1 hs1 H1 e1 w1 q1 => ⟨k, rfl, q1 ρ1 H1 (Ext.refl _ _) w1 _ (.bl _)⟩
def xIf (t : XB) (m m' : XE) : XE := fun env hs => andThen (t env hs) fun k hs1 => if k = true then m env hs1 else m' env hs1
theorem de_if (hc : DT X G E c t) (ha : DE X G E a m) (hb : DE X G E b m') : DE X G E (.IfExp c a b pos) (xIf t m m') := by
  refine ⟨hc.hK, PE.less (pe_ifExp hc.pt ha.pe hb.pe) fun σ H Q q => ?_⟩
  obtain ⟨ρ, env, hs, R, w, q⟩ := q
  refine tT_seq R w q fun k ρ1 hs1 H1 e1 w1 q1 => ?_
  cases k with
  | true => rw [if_pos rfl] at q1 ⊢; exact tD_of R e1 w1 q1
  | false => rw [if_neg Bool.false_ne_true] at q1 ⊢; exact tD_of R e1 w1 q1

/-! ### arguments, displays -/
def xNil : XA := fun _ hs => .ok ([], hs)
def asD (r : SV) : Option D := match r with
  | .dat d => some d
  | _ => none
def xCons (m : XE) (r : XA) : XA := fun env hs => andThen (m env hs) fun d hs1 => andThen (liftO (asD d) hs1) fun d hs1 => andThen (r env hs1) fun ds hs2 => .ok (d :: ds, hs2)
theorem da_nil (hK : G.K = X.K := by rfl) : DAr X G E [] xNil := ⟨hK, PA.less pa_nil fun σ H Q h => by
  obtain ⟨ρ, env, hs, R, w, q⟩ := h
  exact q ρ H (Ext.refl _ _) w [] .nil⟩
theorem tA_seq {mA : XA} {σ : L2.St} {H : Hp} {ρ : List Addr} {env : Envd} {hs : Hs} {β : Type} {f : List D → Hs → Res (β × Hs)} {Qf : β → List Addr → Hs → Hp → Prop} {Q : List V → Hp → Prop} (R : SR G ρ H σ env) (w : Wd G ρ H hs)
    (h : Out G E ρ H (andThen (mA env hs) f) Qf) (k : ∀ ds ρ1 hs1 H1, Ext ρ H ρ1 H1 → Wd G ρ1 H1 hs1 → Out G E ρ1 H1 (f ds hs1) Qf → ∀ vs, FzA G.K H1 vs ds → Q vs H1) : tA G E mA σ H Q := by
  refine ⟨ρ, env, hs, R, w, Out.imp h.seq fun d hs1 ρ1 H1 em e1 w1 q v br => ?_⟩
  exact k d ρ1 hs1 H1 e1 w1 q v br
theorem asD_some {r : SV} {d : D} (h : asD r = some d) : r = .dat d := by
  unfold asD at h
  split at h
  · cases h; rfl
  · cases h
theorem da_cons {mA : XA} (h : DE X G E e m) (hr : DAr X G E es mA) (hs : starEach (e :: es) X.env = (false, eval e X.env) :: starEach es X.env := by rfl) : DAr X G E (e :: es) (xCons m mA) := by
  refine ⟨h.hK, PA.less (pa_cons h.pe hr.pa hs) fun σ H Q q => ?_⟩
  obtain ⟨ρ, env, hs, R, w, q⟩ := q
  refine tD_seq R w q fun r ρ1 hs1 H1 e1 w1 q1 v rr => ?_
  obtain ⟨d, hd, q2⟩ := out_lift q1.seq
  have e := asD_some hd
  subst e
  refine tA_seq (R.ext e1) w1 (q2 ρ1 H1 (Ext.refl _ _) w1) fun ds ρ2 hs2 H2 e2 w2 q3 vs fs => ?_
  exact q3 ρ2 H2 (Ext.refl _ _) w2 (v :: vs) (.cons (Fz.mono e2.sm rr) fs)
def xTup (mA : XA) : XE := fun env hs => andThen (mA env hs) fun ds hs1 => if ds.length ≤ sizeLine then .ok (.dat (.tuple ds), hs1) else .stuck
def xLst (mA : XA) : XE := fun env hs => andThen (mA env hs) fun ds hs1 => if ds.length ≤ sizeLine then .ok (.own ds, hs1) else .stuck
theorem out_if {ρ : List Addr} {H : Hp} {α : Type} {p : Prop} [Decidable p] {o : Res (α × Hs)} {Q : α → List Addr → Hs → Hp → Prop} (h : Out G E ρ H (if p then o else .stuck) Q) : p ∧ Out G E ρ H o Q := by
  by_cases hp : p
  · rw [if_pos hp] at h; exact ⟨hp, h⟩
  · rw [if_neg hp] at h; exact h.elim
theorem de_tup {mA : XA} {k : Nat} (h : DAr X G E es mA) : DE X G E (.Tuple es k pos) (xTup mA) := by
  refine ⟨h.hK, PE.less (pe_tup h.pa) fun σ H Q q => ?_⟩
  obtain ⟨ρ, env, hs, R, w, q⟩ := q
  refine tA_seq R w q fun ds ρ1 hs1 H1 e1 w1 q1 vs fs => ?_
  obtain ⟨hz, q1⟩ := out_if q1
  refine ⟨by rw [fs.length]; exact hz, fun p hp => q1 ρ1 _ (.ofAll (grow_new hp)) (w1.new hp) _ (.tup (.inl (.inl upd_same)) (fzA_new hp fs))⟩
theorem de_lst {mA : XA} (h : DAr X G E es mA) : DE X G E (.List es pos) (xLst mA) := by
  refine ⟨h.hK, PE.less (pe_lst h.pa) fun σ H Q q => ?_⟩
  obtain ⟨ρ, env, hs, R, w, q⟩ := q
  refine tA_seq R w q fun ds ρ1 hs1 H1 e1 w1 q1 vs fs => ?_
  obtain ⟨hz, q1⟩ := out_if q1
  refine ⟨by rw [fs.length]; exact hz, fun p hp => q1 ρ1 _ (.ofAll (grow_new hp)) (w1.new hp) _ (rr_ext0 e1 ((rn_own hp fs).rr w1))⟩
end
end DL
set_option Elab.async false
set_option linter.all false
set_option maxRecDepth 100000
set_option maxHeartbeats 4000000
/-! DF: subscripts, slices, calls of built-ins, methods of texts. -/
namespace DL
open PySem PySem.Spec PyProof.Rows L2 LamX

/-! ### borrowed arguments -/
inductive BrA (K : PySem.W.Frag) (ρ : List Addr) (H : Hp) : List V → List D → Prop
  | nil : BrA K ρ H [] []
  | cons {v : V} {vs : List V} {d : D} {ds : List D} : Br K ρ H v d → BrA K ρ H vs ds → BrA K ρ H (v :: vs) (d :: ds)
theorem BrA.ext {K : PySem.W.Frag} {ρ ρ' : List Addr} {H H' : Hp} (e : Ext ρ H ρ' H') : ∀ {vs : List V} {ds : List D}, BrA K ρ H vs ds → BrA K ρ' H' vs ds
  | _, _, .nil => .nil
  | _, _, .cons r t => .cons (r.ext e) (BrA.ext e t)
def tAb (G : Gx) (E : XK) (m : XA) : TA := fun σ H Q => ∃ ρ env hs, SR G ρ H σ env ∧ Wd G ρ H hs ∧ Out G E ρ H (m env hs) fun ds ρ' _ H' => ∀ vs, BrA G.K ρ' H' vs ds → Q vs H'
structure DAb (X : Cx) (G : Gx) (E : XK) (es : List Expr) (m : XA) : Prop where
  hK : G.K = X.K
  pa : PA X es (tAb G E m)
def xConsB (m : XD) (r : XA) : XA := fun env hs => andThen (m env hs) fun d hs1 => andThen (r env hs1) fun ds hs2 => .ok (d :: ds, hs2)
abbrev Opn := List D → Option SV
def rBn (G : Gx) (g : Opn) : List V → Hp → VK → Prop := fun xs H Q => ∃ ρ ds r, BrA G.K ρ H xs ds ∧ g ds = some r ∧ ∀ v H', Grow H H' → RN G H H' v r → Q v H'
structure CallB (X : Cx) (G : Gx) (f : Value) (g : Opn) : Prop where
  hK : G.K = X.K
  op : CallR X f (rBn G g)
def xCal (g : Opn) (mA : XA) : XE := fun env hs => andThen (mA env hs) fun ds hs1 => liftO (g ds) hs1
section
variable {X : Cx} {G : Gx} {E : XK} {a b c e : Expr} {es : List Expr} {pos p : Pos} {ma mb mc : XD} {m : XE} {mA : XA} {x : Str}
theorem dab_nil (hK : G.K = X.K := by rfl) : DAb X G E [] xNil := ⟨hK, PA.less pa_nil fun σ H Q h => by
  obtain ⟨ρ, env, hs, R, w, q⟩ := h
  exact q ρ H (Ext.refl _ _) w [] .nil⟩
theorem tAb_seq {σ : L2.St} {H : Hp} {ρ : List Addr} {env : Envd} {hs : Hs} {β : Type} {f : List D → Hs → Res (β × Hs)} {Qf : β → List Addr → Hs → Hp → Prop} {Q : List V → Hp → Prop} (R : SR G ρ H σ env) (w : Wd G ρ H hs)
    (h : Out G E ρ H (andThen (mA env hs) f) Qf) (k : ∀ ds ρ1 hs1 H1, Ext ρ H ρ1 H1 → Wd G ρ1 H1 hs1 → Out G E ρ1 H1 (f ds hs1) Qf → ∀ vs, BrA G.K ρ1 H1 vs ds → Q vs H1) : tAb G E mA σ H Q := by
  refine ⟨ρ, env, hs, R, w, Out.imp h.seq fun d hs1 ρ1 H1 em e1 w1 q v br => ?_⟩
  exact k d ρ1 hs1 H1 e1 w1 q v br
theorem dab_cons (h : DBo X G E e ma) (hr : DAb X G E es mA) (hs : starEach (e :: es) X.env = (false, eval e X.env) :: starEach es X.env := by rfl) : DAb X G E (e :: es) (xConsB ma mA) := by
  refine ⟨h.hK, PA.less (pa_cons h.pe hr.pa hs) fun σ H Q q => ?_⟩
  obtain ⟨ρ, env, hs, R, w, q⟩ := q
  refine tB_seq R w q fun d ρ1 hs1 H1 e1 w1 q1 v br => ?_
  refine tAb_seq (R.ext e1) w1 q1 fun ds ρ2 hs2 H2 e2 w2 q3 vs fs => ?_
  exact q3 ρ2 H2 (Ext.refl _ _) w2 (v :: vs) (.cons (br.ext e2) fs)
theorem cal_less {g : Opn} {σ : L2.St} {H : Hp} {Q : VK} (h : tD G E (xCal g mA) σ H Q) : tAb G E mA σ H fun vs H1 => rBn G g vs H1 Q := by
  obtain ⟨ρ, env, hs, R, w, q⟩ := h
  refine tAb_seq R w q fun ds ρ1 hs1 H1 e1 w1 q1 vs br => ?_
  obtain ⟨r, hr, q3⟩ := out_lift q1
  exact ⟨ρ1, ds, r, br, hr, fun v3 H3 g3 rn => q3 ρ1 H3 (.ofAll g3) (w1.ofAll g3) v3 (rr_ext0 e1 (rn.rr w1))⟩
theorem de_callB {id : String} {g : Opn} (hc : CallB X G (.builtin id) g) (hg : Gl X x) (hm : X.mg x = none) (hv : bootBuiltins x = some (.builtin id)) (ha : DAb X G E (e :: es) mA) (hn : x ≠ "__name__" := by decide) (hdb : (x == ("__debug__" : Str)) = false := by decide)
    (he : starEach (e :: es) X.env = (false, eval e X.env) :: starEach es X.env := by rfl) (hpl : (backTo pos (starEach es X.env)).any (·.1) = false := by rfl) : DE X G E (.Call (.Name x p) (e :: es) [] pos) (xCal g mA) :=
  ⟨hc.hK, PE.less (pe_callB hc.op hg hm hv ha.pa hn hdb he hpl) fun σ H Q h => cal_less h⟩
theorem de_callTy {id : String} {g : Opn} (hc : CallB X G (.type id) g) (hg : Gl X x) (hm : X.mg x = none) (hv : bootBuiltins x = some (.type id)) (ha : DAb X G E (e :: es) mA) (hn : x ≠ "__name__" := by decide) (hdb : (x == ("__debug__" : Str)) = false := by decide)
    (he : starEach (e :: es) X.env = (false, eval e X.env) :: starEach es X.env := by rfl) (hpl : (backTo pos (starEach es X.env)).any (·.1) = false := by rfl) : DE X G E (.Call (.Name x p) (e :: es) [] pos) (xCal g mA) :=
  ⟨hc.hK, PE.less (pe_callTy hc.op hg hm hv ha.pa hn hdb he hpl) fun σ H Q h => cal_less h⟩

/-! ### len, list, tuple, int, max, min -/
def lenD : Opn
  | [.list ds] => some (.dat (.int ds.length))
  | [.tuple ds] => some (.dat (.int ds.length))
  | [.str x] => if x.length ≤ sizeLine then some (.dat (.int x.length)) else none
  | _ => none
def listD : Opn
  | [.list ds] => some (.own ds)
  | [.tuple ds] => some (.own ds)
  | _ => none
def tupleD : Opn
  | [.list ds] => some (.dat (.tuple ds))
  | [.tuple ds] => some (.dat (.tuple ds))
  | _ => none
def intD : Opn
  | [.int i] => some (.dat (.int i))
  | [.bool k] => some (.dat (.int (if k then 1 else 0)))
  | _ => none
def maxD : Opn
  | [.int i, .int j] => some (.dat (.int (if j > i then j else i)))
  | _ => none
def minD : Opn
  | [.int i, .int j] => some (.dat (.int (if j < i then j else i)))
  | _ => none
theorem BrA.one {ρ : List Addr} {H : Hp} {vs : List V} {d : D} (h : BrA G.K ρ H vs [d]) : ∃ v, vs = [v] ∧ Br G.K ρ H v d := by
  cases h with
  | cons r t => cases t; exact ⟨_, rfl, r⟩
theorem BrA.two {ρ : List Addr} {H : Hp} {vs : List V} {d e : D} (h : BrA G.K ρ H vs [d, e]) : ∃ v w, vs = [v, w] ∧ Br G.K ρ H v d ∧ Br G.K ρ H w e := by
  cases h with
  | cons r t => obtain ⟨w, rfl, q⟩ := BrA.one t; exact ⟨_, _, rfl, r, q⟩
theorem cb_len (hK : G.K = X.K := by rfl) : CallB X G (.builtin "len") lenD := by
  refine ⟨hK, CallR.less (L2.CallR.or call_len_seq call_len_str) fun xs H Q h => ?_⟩
  obtain ⟨ρ, ds, r, hd, hg, q⟩ := h
  unfold lenD at hg
  split at hg
  · cases hg
    obtain ⟨v, rfl, br⟩ := hd.one
    obtain ⟨a, vs, rfl, h1, h2⟩ := br.lst
    exact .inl ⟨a, vs, rfl, .inl (.inl h1), by rw [h2.length]; exact q _ H (Grow.refl _) (.int _)⟩
  · cases hg
    obtain ⟨v, rfl, br⟩ := hd.one
    obtain ⟨a, vs, rfl, h1, h2⟩ := br.tup
    exact .inl ⟨a, vs, rfl, .inr (by rw [← hK]; exact h1), by rw [h2.length]; exact q _ H (Grow.refl _) (.int _)⟩
  · split at hg
    · rename_i hz
      cases hg
      obtain ⟨v, rfl, br⟩ := hd.one
      exact .inr ⟨_, by rw [br.str.1], hz, q _ H (Grow.refl _) (.int _)⟩
    · cases hg
  · cases hg
theorem cb_list (hK : G.K = X.K := by rfl) : CallB X G (.type "list") listD := by
  refine ⟨hK, CallR.less call_list_of fun xs H Q h => ?_⟩
  obtain ⟨ρ, ds, r, hd, hg, q⟩ := h
  unfold listD at hg
  split at hg
  · cases hg
    obtain ⟨v, rfl, br⟩ := hd.one
    obtain ⟨a, vs, rfl, h1, h2⟩ := br.lst
    exact ⟨a, vs, rfl, .inl (.inl h1), fun p hp => q _ _ (grow_new hp) (rn_own hp h2)⟩
  · cases hg
    obtain ⟨v, rfl, br⟩ := hd.one
    obtain ⟨a, vs, rfl, h1, h2⟩ := br.tup
    exact ⟨a, vs, rfl, .inr (by rw [← hK]; exact h1), fun p hp => q _ _ (grow_new hp) (rn_own hp h2)⟩
  · cases hg
theorem cb_tuple (hK : G.K = X.K := by rfl) : CallB X G (.type "tuple") tupleD := by
  refine ⟨hK, CallR.less call_tuple_of fun xs H Q h => ?_⟩
  obtain ⟨ρ, ds, r, hd, hg, q⟩ := h
  unfold tupleD at hg
  split at hg
  · cases hg
    obtain ⟨v, rfl, br⟩ := hd.one
    obtain ⟨a, vs, rfl, h1, h2⟩ := br.lst
    exact ⟨a, vs, rfl, .inl ⟨.inl h1, fun p hp => q _ _ (grow_new hp) (rn_tup hp h2)⟩⟩
  · cases hg
    obtain ⟨v, rfl, br⟩ := hd.one
    obtain ⟨a, vs, rfl, h1, h2⟩ := br.tup
    exact ⟨a, vs, rfl, .inr ⟨by rw [← hK]; exact h1, q _ H (Grow.refl _) (.tup h1 h2)⟩⟩
  · cases hg
theorem cb_int (hK : G.K = X.K := by rfl) : CallB X G (.type "int") intD := by
  refine ⟨hK, CallR.less call_int1 fun xs H Q h => ?_⟩
  obtain ⟨ρ, ds, r, hd, hg, q⟩ := h
  unfold intD at hg
  split at hg
  · cases hg
    obtain ⟨v, rfl, br⟩ := hd.one
    exact .inl ⟨_, by rw [br.int], q _ H (Grow.refl _) (.int _)⟩
  · cases hg
    obtain ⟨v, rfl, br⟩ := hd.one
    exact .inr ⟨_, by rw [br.bl], q _ H (Grow.refl _) (.int _)⟩
  · cases hg
theorem cb_max (hc : X.calm = true) (hK : G.K = X.K := by rfl) : CallB X G (.builtin "max") maxD := by
  refine ⟨hK, CallR.less (call_max2 hc) fun xs H Q h => ?_⟩
  obtain ⟨ρ, ds, r, hd, hg, q⟩ := h
  unfold maxD at hg
  split at hg
  · cases hg
    obtain ⟨v, w, rfl, br, br2⟩ := hd.two
    exact ⟨_, _, by rw [br.int, br2.int], q _ H (Grow.refl _) (.int _)⟩
  · cases hg
theorem cb_min (hc : X.calm = true) (hK : G.K = X.K := by rfl) : CallB X G (.builtin "min") minD := by
  refine ⟨hK, CallR.less (call_min2 hc) fun xs H Q h => ?_⟩
  obtain ⟨ρ, ds, r, hd, hg, q⟩ := h
  unfold minD at hg
  split at hg
  · cases hg
    obtain ⟨v, w, rfl, br, br2⟩ := hd.two
    exact ⟨_, _, by rw [br.int, br2.int], q _ H (Grow.refl _) (.int _)⟩
  · cases hg

/-! ### a[i] -/
/-- the item at i, of any sign -/
def itemD : Op2
  | .list ds, .int i => (atI ds i).map .dat
  | .tuple ds, .int i => (atI ds i).map .dat
  | .str x, .int i => if x.length ≤ sizeLine then (atI x.cps.toList i).map fun c => .dat (.str ⟨#[c]⟩) else none
  | _, _ => none
structure IxB (X : Cx) (G : Gx) (g : Op2) : Prop where
  hK : G.K = X.K
  op : IxR X (rB2 G g)
theorem atI_fz {H : Hp} {vs : List V} {ds : List D} {i : Int} {d : D} (h : FzA G.K H vs ds) (e : atI ds i = some d) : ∃ v, atI vs i = some v ∧ Fz G.K H v d := by
  unfold atI at e ⊢
  rw [h.length]
  obtain ⟨j, e1, e2⟩ := Option.bind_eq_some_iff.mp e
  obtain ⟨v, h1, h2⟩ := h.get e2
  exact ⟨v, by rw [e1]; exact h1, h2⟩
theorem strOk_one {x : Str} {i : Int} {c : Nat} (h : PyData.strOk x = true) (e : atI x.cps.toList i = some c) : PyData.strOk ⟨#[c]⟩ = true := by
  unfold atI at e
  obtain ⟨j, e1, e2⟩ := Option.bind_eq_some_iff.mp e
  have hm : c ∈ x.cps.toList := List.mem_of_getElem? e2
  have h' := h
  unfold PyData.strOk at h' ⊢
  rw [← Array.all_toList] at h' ⊢
  have := List.all_eq_true.mp h' c hm
  simpa using this
theorem ixb_item (hK : G.K = X.K := by rfl) : IxB X G itemD := by
  refine ⟨hK, IxR.less ix_seq fun x y H Q h => ?_⟩
  obtain ⟨ρ, d, e, r, hd, he, hg, q⟩ := h
  unfold itemD at hg
  split at hg
  · obtain ⟨z, hz, rfl⟩ := Option.map_eq_some_iff.mp hg
    obtain ⟨a, vs, rfl, h1, h2⟩ := hd.lst
    obtain ⟨v, h3, h4⟩ := atI_fz h2 hz
    exact .inl ⟨a, vs, _, v, rfl, he.int, .inl h1, h3, q _ H (Grow.refl _) h4⟩
  · obtain ⟨z, hz, rfl⟩ := Option.map_eq_some_iff.mp hg
    obtain ⟨a, vs, rfl, h1, h2⟩ := hd.tup
    obtain ⟨v, h3, h4⟩ := atI_fz h2 hz
    exact .inr (.inl ⟨a, vs, _, v, rfl, he.int, by rw [← hK]; exact h1, h3, q _ H (Grow.refl _) h4⟩)
  · split at hg
    · rename_i hl
      obtain ⟨z, hz, rfl⟩ := Option.map_eq_some_iff.mp hg
      obtain ⟨h1, h2⟩ := hd.str
      exact .inr (.inr ⟨_, _, z, h1, he.int, hl, hz, q _ H (Grow.refl _) (.str _ (strOk_one h2 hz))⟩)
    · cases hg
  · cases hg
theorem de_ix {g : Op2} (hr : IxB X G g) (ha : DBo X G E a ma) (hb : DBo X G E b mb) (hs : PlainIx b := by exact fun _ _ => rfl) : DE X G E (.Subscript a b pos) (xBin g ma mb) :=
  ⟨hr.hK, PE.less (pe_ix hr.op ha.pe hb.pe hs) fun σ H Q h => by
    obtain ⟨ρ, env, hs, R, w, q⟩ := h
    refine tB_seq R w q fun d ρ1 hs1 H1 e1 w1 q1 v br => ?_
    refine tB_seq (R.ext e1) w1 q1 fun e ρ2 hs2 H2 e2 w2 q2 v2 br2 => ?_
    obtain ⟨r, hr, q3⟩ := out_lift q2
    exact ⟨ρ2, d, e, r, br.ext e2, br2, hr, fun v3 H3 g3 rn => q3 ρ2 H3 (.ofAll g3) (w2.ofAll g3) v3 (rr_ext0 (e1.trans e2) (rn.rr w2))⟩⟩
/-- an item of a cell -/
def xCellIx (i : Nat) (mb : XD) : XE := fun env hs => match env[i]?.join with
  | some (.cell k) => andThen (mb env hs) fun e hs1 => match e, hs1[k]? with
    | .int j, some ds => match atI ds j with
      | some d => .ok (.dat d, hs1)
      | none => .stuck
    | _, _ => .stuck
  | _ => .stuck
theorem de_cellIx (i : Nat) {q : Pos} (hb : DBo X G E b mb) (hs : PlainIx b := by exact fun _ _ => rfl) (hK : G.K = X.K := by rfl) (hN : X.N[i]? = some x := by rfl) (hv : Vis X.env.scope x := by first | exact Or.inl rfl | exact Or.inr (Or.inl rfl) | exact Or.inr (Or.inr rfl))
    (hd : (x == ("__debug__" : Str)) = false := by decide) (hcd : (x == ("__classdict__" : Str)) = false := by decide) : DE X G E (.Subscript (.Name x q) b pos) (xCellIx i mb) := by
  refine ⟨hK, PE.less (pe_ix ix_list (pe_var hN hv hd hcd) hb.pe hs) fun σ H Q h => ?_⟩
  obtain ⟨ρ, env, hs, R, w, q⟩ := h
  unfold xCellIx at q
  split at q
  · rename_i k ek
    obtain ⟨v, e1, a, rfl, ha⟩ := slot_get R ek
    refine ⟨.ref a, e1, tB_seq R w q fun e ρ1 hs1 H1 x1 w1 q1 v2 br => ?_⟩
    split at q1
    · rename_i j ds hds
      split at q1
      · rename_i d hd'
        obtain ⟨vs, h1, h2⟩ := w1.at_ k a ds (pre_get x1.pre ha) hds
        obtain ⟨z, h3, h4⟩ := atI_fz h2 hd'
        exact ⟨a, vs, j, z, rfl, br.int, .inl (.inl h1), h3, q1 ρ1 H1 (Ext.refl _ _) w1 _ h4⟩
      · exact q1.elim
    · exact q1.elim
  · exact q.elim

/-! ### a[lo:hi] -/
/-- xs[lo:hi] -/
def cutL {α : Type} (xs : List α) (lo hi : Option Int) : List α := (xs.drop (HT.sIx xs.length 0 lo)).take (HT.sIx xs.length xs.length hi - HT.sIx xs.length 0 lo)
theorem FzA.cut {K : PySem.W.Frag} {H : Hp} {vs : List V} {ds : List D} (h : FzA K H vs ds) (lo hi : Option Int) : FzA K H (cutL vs lo hi) (cutL ds lo hi) := by
  unfold cutL
  rw [h.length]
  exact (h.drop _).take _
def sliceD (d : D) (lo hi : Option Int) : Option SV := match d with
  | .list ds => some (.own (cutL ds lo hi))
  | .tuple ds => some (.dat (.tuple (cutL ds lo hi)))
  | .str x => if x.length ≤ sizeLine then some (.dat (.str ⟨(cutL x.cps.toList lo hi).toArray⟩)) else none
  | _ => none
theorem cutS_eq (z : Str) (lo hi : Option Int) : cutS z lo hi = ⟨(cutL z.cps.toList lo hi).toArray⟩ := by
  unfold cutS cutL
  simp [Str.length]
theorem strOk_cut {x : Str} (h : PyData.strOk x = true) (lo hi : Option Int) : PyData.strOk ⟨(cutL x.cps.toList lo hi).toArray⟩ = true := by
  have h' := h
  unfold PyData.strOk at h' ⊢
  rw [← Array.all_toList] at h' ⊢
  refine List.all_eq_true.mpr fun c hc => List.all_eq_true.mp h' c ?_
  have hc' : c ∈ cutL x.cps.toList lo hi := by simpa using hc
  exact List.mem_of_mem_drop (List.mem_of_mem_take hc')
abbrev XO := Envd → Hs → Res (Option Int × Hs)
def tOo (G : Gx) (E : XK) (m : XO) : TO := fun σ H Q => ∃ ρ env hs, SR G ρ H σ env ∧ Wd G ρ H hs ∧ Out G E ρ H (m env hs) fun o _ _ H' => Q o H'
structure DO (X : Cx) (G : Gx) (E : XK) (e : Option Expr) (m : XO) : Prop where
  po : PO X e (tOo G E m)
theorem PO.less {e : Option Expr} {t t' : TO} (h : PO X e t) (i : ∀ σ H Q, t' σ H Q → t σ H Q) : PO X e t' := ⟨fun pins s σ H Q I q => h.run pins s σ H Q I (i σ H Q q)⟩
def xNoP : XO := fun _ hs => .ok (none, hs)
def xPart (m : XD) : XO := fun env hs => andThen (m env hs) fun d hs1 => match d with
  | .int i => .ok (some i, hs1)
  | _ => .stuck
theorem do_none : DO X G E none xNoP := ⟨PO.less po_none fun σ H Q h => by
  obtain ⟨ρ, env, hs, R, w, q⟩ := h
  exact q ρ H (Ext.refl _ _) w⟩
theorem do_some (h : DBo X G E e ma) : DO X G E (some e) (xPart ma) := ⟨PO.less (po_some h.pe) fun σ H Q q => by
  obtain ⟨ρ, env, hs, R, w, q⟩ := q
  refine tB_seq R w q fun d ρ1 hs1 H1 e1 w1 q1 v br => ?_
  split at q1
  · exact ⟨_, br.int, q1 ρ1 H1 (Ext.refl _ _) w1⟩
  · exact q1.elim⟩
def xSlice (ma : XD) (ml mh : XO) : XE := fun env hs => andThen (ma env hs) fun d hs1 => andThen (ml env hs1) fun lo hs2 => andThen (mh env hs2) fun hi hs3 => liftO (sliceD d lo hi) hs3
def rBsl (G : Gx) : V → Option Int → Option Int → Hp → VK → Prop := fun x lo hi H Q => ∃ ρ d r, Br G.K ρ H x d ∧ sliceD d lo hi = some r ∧ ∀ v H', Grow H H' → RN G H H' v r → Q v H'
theorem sl_data (hK : G.K = X.K) : SlR X (rBsl G) := by
  refine SlR.less (sl_list.or (sl_tupA.or sl_str)) fun x lo hi H Q h => ?_
  obtain ⟨ρ, d, r, hd, hg, q⟩ := h
  unfold sliceD at hg
  split at hg
  · cases hg
    obtain ⟨a, vs, rfl, h1, h2⟩ := hd.lst
    exact .inl ⟨a, vs, rfl, .inl h1, fun p hp => q _ _ (grow_new hp) (rn_own hp (h2.cut lo hi))⟩
  · cases hg
    obtain ⟨a, vs, rfl, h1, h2⟩ := hd.tup
    refine .inr (.inl ⟨a, vs, rfl, by rw [← hK]; exact h1, fun ⟨z1, z2⟩ => ?_, fun _ p hp => q _ _ (grow_new hp) (rn_tup hp (h2.cut lo hi))⟩)
    have e : cutL vs lo hi = vs := by
      unfold cutL
      rw [z1, z2]
      simp
    exact q _ H (Grow.refl _) (.tup h1 (by rw [← e]; exact h2.cut lo hi))
  · split at hg
    · rename_i hl
      cases hg
      obtain ⟨h1, h2⟩ := hd.str
      refine .inr (.inr ⟨_, h1, hl, ?_⟩)
      rw [cutS_eq]
      exact q _ H (Grow.refl _) (.str _ (strOk_cut h2 lo hi))
    · cases hg
  · cases hg
theorem tOo_seq {mo : XO} {σ : L2.St} {H : Hp} {ρ : List Addr} {env : Envd} {hs : Hs} {β : Type} {f : Option Int → Hs → Res (β × Hs)} {Qf : β → List Addr → Hs → Hp → Prop} {Q : Option Int → Hp → Prop} (R : SR G ρ H σ env) (w : Wd G ρ H hs)
    (h : Out G E ρ H (andThen (mo env hs) f) Qf) (k : ∀ r ρ1 hs1 H1, Ext ρ H ρ1 H1 → Wd G ρ1 H1 hs1 → Out G E ρ1 H1 (f r hs1) Qf → Q r H1) : tOo G E mo σ H Q := by
  refine ⟨ρ, env, hs, R, w, Out.imp h.seq fun d hs1 ρ1 H1 em e1 w1 q => ?_⟩
  exact k d ρ1 hs1 H1 e1 w1 q
theorem de_slice {lo hi : Option Expr} {ml mh : XO} {p2 : Pos} (ha : DBo X G E a ma) (hl : DO X G E lo ml) (hh : DO X G E hi mh) : DE X G E (.Subscript a (.Slice lo hi none p2) pos) (xSlice ma ml mh) :=
  ⟨ha.hK, PE.less (pe_slice (sl_data ha.hK) ha.pe hl.po hh.po) fun σ H Q h => by
    obtain ⟨ρ, env, hs, R, w, q⟩ := h
    refine tB_seq R w q fun d ρ1 hs1 H1 e1 w1 q1 v br => ?_
    refine tOo_seq (R.ext e1) w1 q1 fun l ρ2 hs2 H2 e2 w2 q2 => ?_
    refine tOo_seq ((R.ext e1).ext e2) w2 q2 fun u ρ3 hs3 H3 e3 w3 q3 => ?_
    obtain ⟨r, hr, q4⟩ := out_lift q3
    exact ⟨ρ3, d, r, (br.ext e2).ext e3, hr, fun v3 H4 g3 rn => q4 ρ3 H4 (.ofAll g3) (w3.ofAll g3) v3 (rr_ext0 (e1.trans (e2.trans e3)) (rn.rr w3))⟩⟩
end
end DL
set_option Elab.async false
set_option linter.all false
set_option maxRecDepth 100000
set_option maxHeartbeats 4000000
/-! DG: split, join, sorted. -/
namespace DL
open PySem PySem.Spec PyProof.Rows L2 LamX TL

/-- texts of codes -/
abbrev mkS (l : List Nat) : Str := ⟨l.toArray⟩
theorem mkS_tl (x : Str) : mkS (tl x) = x := mk_tl x
theorem tl_mkS (l : List Nat) : tl (mkS l) = l := rfl
/-- l cut at each c -/
def splitC (c : Nat) : List Nat → List Nat → List (List Nat)
  | acc, [] => [acc]
  | acc, x :: r => if x = c then acc :: splitC c [] r else splitC c (acc ++ [x]) r
theorem spl_splitC (c : Nat) : ∀ (l acc : List Nat), spl [c] 0 acc l = splitC c acc l
  | [], acc => rfl
  | x :: r, acc => by
    by_cases h : x = c
    · subst h
      rw [spl_hit (by simp [pre])]
      show acc :: spl [x] 0 [] r = splitC x acc (x :: r)
      rw [spl_splitC x r []]
      simp [splitC]
    · rw [spl_miss (by simp [pre, h]), spl_splitC c r]
      simp [splitC, h]
theorem split_eq (x : Str) (c : Nat) (hc : c < 256) : Txt.split x (mkS [c]) = (splitC c [] (tl x)).map mkS := by
  refine map_tl_inj ?_
  rw [split_spl x (mkS [c]) (by simp) (kind_ok (by simp [hc]))]
  show spl [c] 0 [] (tl x) = _
  rw [spl_splitC, List.map_map]
  simp [Function.comp_def]
theorem mem_splitC {c : Nat} : ∀ (l acc p : List Nat), p ∈ splitC c acc l → ∀ z ∈ p, z ∈ acc ∨ z ∈ l
  | [], acc, p, hp, z, hz => by
    simp [splitC] at hp; subst hp; exact .inl hz
  | x :: r, acc, p, hp, z, hz => by
    unfold splitC at hp
    split at hp
    · rcases List.mem_cons.mp hp with rfl | hp
      · exact .inl hz
      · rcases mem_splitC r [] p hp z hz with h | h
        · simp at h
        · exact .inr (List.mem_cons_of_mem _ h)
    · rcases mem_splitC r _ p hp z hz with h | h
      · rcases List.mem_append.mp h with h | h
        · exact .inl h
        · simp at h; subst h; exact .inr List.mem_cons_self
      · exact .inr (List.mem_cons_of_mem _ h)
theorem strOk_iff {x : Str} : PyData.strOk x = true ↔ ∀ c ∈ tl x, c < 0x110000 := by
  unfold PyData.strOk
  rw [← Array.all_toList, List.all_eq_true]
  simp
def splitD : Op2
  | .str x, .str y => match tl y with
    | [c] => if c < 256 ∧ x.length + 2 ≤ sizeLine then some (.own ((splitC c [] (tl x)).map fun p => .str (mkS p))) else none
    | _ => none
  | _, _ => none
def joinStrs : List D → Option (List (List Nat))
  | [] => some []
  | .str x :: r => (joinStrs r).map (tl x :: ·)
  | _ => none
def joinD : Op2
  | .str y, .list ds => (joinStrs ds).bind fun ls => if (ls.map List.length).sum + ls.length * y.length ≤ 16777216 then some (.dat (.str (mkS (joinL (tl y) ls)))) else none
  | .str y, .tuple ds => (joinStrs ds).bind fun ls => if (ls.map List.length).sum + ls.length * y.length ≤ 16777216 then some (.dat (.str (mkS (joinL (tl y) ls)))) else none
  | _, _ => none
section
variable {X : Cx} {G : Gx} {E : XK} {a b c e : Expr} {es : List Expr} {pos p : Pos} {ma mb mc : XD} {m : XE} {mA : XA} {x : Str}
theorem fzA_strs {H : Hp} : ∀ (ls : List (List Nat)), (∀ p ∈ ls, ∀ c ∈ p, c < 0x110000) → FzA G.K H ((ls.map mkS).map V.str) (ls.map fun p => PyData.str (mkS p))
  | [], _ => .nil
  | p :: r, h => .cons (.str _ (strOk_iff.mpr (h p List.mem_cons_self))) (fzA_strs r fun q hq => h q (List.mem_cons_of_mem _ hq))
/-- a method of a text with one argument -/
def xM1 (g : Op2) (ma mb : XD) : XE := fun env hs => andThen (ma env hs) fun d hs1 => match d with
  | .str x => andThen (mb env hs1) fun e hs2 => liftO (g (.str x) e) hs2
  | _ => .stuck
theorem m1_less {r : V → List V → Hp → VK → Prop} {g : Op2} {σ : L2.St} {H : Hp} {Q : VK} (k : ∀ ρ z e r' v H Q, PyData.strOk z = true → Br G.K ρ H v e → g (.str z) e = some r' → (∀ v H', Grow H H' → RN G H H' v r' → Q v H') → r (.str z) [v] H Q)
    (h : tD G E (xM1 g ma mb) σ H Q) : tM1 r (tB G E ma) (tB G E mb) σ H Q := by
  obtain ⟨ρ, env, hs, R, w, q⟩ := h
  refine tB_seq R w q fun d ρ1 hs1 H1 e1 w1 q1 v br => ?_
  split at q1
  · rename_i z
    obtain ⟨h1, h2⟩ := br.str
    refine ⟨⟨z, h1⟩, tB_seq (R.ext e1) w1 q1 fun e ρ2 hs2 H2 e2 w2 q2 v2 br2 => ?_⟩
    obtain ⟨r', hr, q3⟩ := out_lift q2
    rw [h1]
    exact k ρ2 z e r' v2 H2 _ h2 br2 hr fun v3 H3 g3 rn => q3 ρ2 H3 (.ofAll g3) (w2.ofAll g3) v3 (rr_ext0 (e1.trans e2) (rn.rr w2))
  · exact q1.elim
theorem de_split {apos : Pos} (ho : DBo X G E a ma) (he : DBo X G E b mb) (hs : starEach [b] X.env = [(false, eval b X.env)] := by rfl) (hbase : attributeBase a "split" X.env (eval a X.env) = eval a X.env := by rfl) (hline : (apos.endLine == pos.line) = true := by rfl) :
    DE X G E (.Call (.Attribute a "split" apos) [b] [] pos) (xM1 splitD ma mb) := by
  refine ⟨ho.hK, PE.less (pe_split ho.pe he.pe hs hbase hline) fun σ H Q h => m1_less (fun ρ z e r' v H Q hz br hg q => ?_) h⟩
  unfold splitD at hg
  split at hg
  · rename_i x y hx
    cases hx
    split at hg
    · rename_i c hc
      split at hg
      · rename_i hcond
        cases hg
        obtain ⟨h1, h2⟩ := br.str
        have hy : y = mkS [c] := ext_tl hc
        subst hy
        refine ⟨z, mkS [c], rfl, by rw [h1], rfl, hcond.2, fun p hp => ?_⟩
        rw [split_eq z c hcond.1]
        refine q _ _ (grow_new hp) (rn_own hp (by
          have := fzA_strs (G := G) (H := H) (splitC c [] (tl z)) fun l hl c' hc' => ?_
          · exact this
          · rcases mem_splitC _ _ l hl c' hc' with h | h
            · simp at h
            · exact strOk_iff.mp hz c' h))
      · cases hg
    · cases hg
  · cases hg
theorem joinStrs_of {H : Hp} : ∀ {vs : List V} {ds : List D} {ls : List (List Nat)}, FzA G.K H vs ds → joinStrs ds = some ls → vs = (ls.map mkS).map V.str ∧ ∀ p ∈ ls, ∀ c ∈ p, c < 0x110000
  | _, _, _, .nil, h => by cases h; exact ⟨rfl, by simp⟩
  | _, _, _, .cons (d := d) r t, h => by
    unfold joinStrs at h
    split at h
    · rename_i heq; cases heq
    · rename_i x l heq
      cases heq
      obtain ⟨ls', h1, rfl⟩ := Option.map_eq_some_iff.mp h
      obtain ⟨e1, e2⟩ := joinStrs_of t h1
      cases r with
      | str _ q =>
        refine ⟨by rw [e1, List.map_cons, List.map_cons, mkS_tl], fun p hp => ?_⟩
        rcases List.mem_cons.mp hp with rfl | hp
        · exact strOk_iff.mp q
        · exact e2 p hp
    · cases h
theorem mem_joinL {S : List Nat} : ∀ {ls : List (List Nat)} {z : Nat}, z ∈ joinL S ls → z ∈ S ∨ ∃ p ∈ ls, z ∈ p
  | [], z, h => by simp [joinL] at h
  | [p], z, h => .inr ⟨p, by simp, h⟩
  | p :: q :: r, z, h => by
    rcases List.mem_append.mp h with h | h
    · exact .inr ⟨p, by simp, h⟩
    · rcases List.mem_append.mp h with h | h
      · exact .inl h
      · rcases mem_joinL h with h | ⟨u, hu, h⟩
        · exact .inl h
        · exact .inr ⟨u, List.mem_cons_of_mem _ hu, h⟩
theorem join_mkS (y : Str) (ls : List (List Nat)) : Txt.join y (ls.map mkS) = mkS (joinL (tl y) ls) := by
  rw [join_eq]
  refine ext_tl ?_
  rw [tl_join, List.map_map]
  simp [Function.comp_def]
theorem de_join {apos : Pos} (ho : DBo X G E a ma) (he : DBo X G E b mb) (hs : starEach [b] X.env = [(false, eval b X.env)] := by rfl) (hbase : attributeBase a "join" X.env (eval a X.env) = eval a X.env := by rfl) (hline : (apos.endLine == pos.line) = true := by rfl) :
    DE X G E (.Call (.Attribute a "join" apos) [b] [] pos) (xM1 joinD ma mb) := by
  refine ⟨ho.hK, PE.less (pe_join ho.pe he.pe hs hbase hline) fun σ H Q h => m1_less (fun ρ z e r' v H Q hz br hg q => ?_) h⟩
  have fin : ∀ (ls : List (List Nat)) (a : Addr), (SqL X.K H a ((ls.map mkS).map V.str) ∨ SqT X.K H a ((ls.map mkS).map V.str)) → (∀ p ∈ ls, ∀ c ∈ p, c < 0x110000) → (ls.map List.length).sum + ls.length * z.length ≤ 16777216 → r' = .dat (.str (mkS (joinL (tl z) ls))) →
      ∃ a_1 p, ∃ ys : List Str, V.str z = .str a_1 ∧ [V.ref a] = [.ref p] ∧ (SqL X.K H p (ys.map V.str) ∨ SqT X.K H p (ys.map V.str)) ∧ (ys.map (·.length)).sum + ys.length * a_1.length ≤ 16777216 ∧ Q (.str (Txt.join a_1 ys)) H := fun ls a hl hc hsz er => by
    subst er
    refine ⟨z, a, ls.map mkS, rfl, rfl, hl, ?_, ?_⟩
    · rw [List.map_map, List.length_map]
      have e : (ls.map ((·.length) ∘ mkS)) = ls.map List.length := List.map_congr_left fun l _ => by simp [Str.length]
      rw [e]; exact hsz
    · rw [join_mkS]
      refine q _ H (Grow.refl _) (.str _ (strOk_iff.mpr fun c hc' => ?_))
      rcases mem_joinL hc' with h | ⟨p, hp, h⟩
      · exact strOk_iff.mp hz c h
      · exact hc p hp c h
  unfold joinD at hg
  split at hg
  · rename_i y ds hx
    cases hx
    obtain ⟨ls, h1, h2⟩ := Option.bind_eq_some_iff.mp hg
    split at h2
    · rename_i hsz
      obtain ⟨a, vs, rfl, g1, g2⟩ := br.lst
      obtain ⟨e1, e2⟩ := joinStrs_of g2 h1
      subst e1
      exact fin ls a (.inl (.inl g1)) e2 hsz (Option.some.inj h2).symm
    · cases h2
  · rename_i y ds hx
    cases hx
    obtain ⟨ls, h1, h2⟩ := Option.bind_eq_some_iff.mp hg
    split at h2
    · rename_i hsz
      obtain ⟨a, vs, rfl, g1, g2⟩ := br.tup
      obtain ⟨e1, e2⟩ := joinStrs_of g2 h1
      subst e1
      exact fin ls a (.inr (by rw [← ho.hK]; exact g1)) e2 hsz (Option.some.inj h2).symm
    · cases h2
  · cases hg

/-! ### sorted -/
open PySem.W (alike dataLe sorted_data EachIs AllAlike Sortable)
def allAlikeB (ds : List D) : Bool := ds.all fun d => ds.all fun e => alike d e
def isTup1 : D → Bool
  | .tuple (_ :: _) => true
  | _ => false
def isPlain1 : D → Bool
  | .none => false
  | .tuple _ => false
  | _ => true
def sortOkB (ds : List D) : Bool := allAlikeB ds && (ds.all isTup1 || ds.all isPlain1) && ds.all fun d => decide (d.depth ≤ 64)
def sortL (ds : List D) : List D := ds.mergeSort (dataLe false id)
def sortedD : Opn
  | [.list ds] => if sortOkB ds = true then some (.own (sortL ds)) else none
  | _ => none
theorem allAlike_of {ds : List D} (h : allAlikeB ds = true) : AllAlike ds := fun d hd e he => List.all_eq_true.mp (List.all_eq_true.mp h d hd) e he
theorem sortable_of {ds : List D} (h : (ds.all isTup1 || ds.all isPlain1) = true) : Sortable ds := by
  rcases Bool.or_eq_true_iff.mp h with h | h
  · refine .inl fun d hd => ?_
    have := List.all_eq_true.mp h d hd
    unfold isTup1 at this
    split at this
    · exact ⟨_, _, rfl⟩
    · cases this
  · refine .inr fun d hd => ?_
    have := List.all_eq_true.mp h d hd
    unfold isPlain1 at this
    split at this
    · cases this
    · cases this
    · rename_i h1 h2
      exact ⟨fun z => h1 z, fun xs z => h2 _ z⟩
/-- values and what they stand for -/
def VZ (K : PySem.W.Frag) (H : Hp) (u : Value) (d : D) : Prop := ∃ v, RelV v u ∧ Fz K H v d
theorem each_VZ {K : PySem.W.Frag} {H : Hp} : ∀ {us : List Value} {vs : List V} {ds : List D}, Vals vs us → FzA K H vs ds → EachIs (VZ K H) us ds
  | _, _, _, .nil, .nil => .nil
  | _, _, _, .cons r t, .cons f g => .cons ⟨_, r, f⟩ (each_VZ t g)
theorem each_VZ_out {K : PySem.W.Frag} {H : Hp} : ∀ {us : List Value} {ds : List D}, EachIs (VZ K H) us ds → ∃ vs, Vals vs us ∧ FzA K H vs ds
  | _, _, .nil => ⟨[], .nil, .nil⟩
  | _, _, .cons ⟨v, r, f⟩ t => by
    obtain ⟨vs, h1, h2⟩ := each_VZ_out t
    exact ⟨v :: vs, .cons r h1, .cons f h2⟩
theorem each_reads {X : Cx} {pins : List (Addr × Obj)} {σ : L2.St} {H : Hp} {s : Shared} (I : Inv X pins σ H s) : ∀ {us : List Value} {ds : List D}, EachIs (VZ X.K H) us ds → EachIs (fun v b => ∃ as, Reads s.heap v b as) us ds
  | _, _, .nil => .nil
  | _, _, .cons ⟨v, r, f⟩ t => .cons (Dp.reads I _ v _ f.dp r) (each_reads I t)
theorem cb_sorted (hu : X.A.units + 80 < cLine) (hK : G.K = X.K := by rfl) : CallB X G (.builtin "sorted") sortedD := by
  refine ⟨hK, fun pins s σ H xs us Q I r h => ?_⟩
  obtain ⟨ρ, ds, r', hd, hg, q⟩ := h
  unfold sortedD at hg
  split at hg
  · rename_i ds
    split at hg
    · rename_i hc
      cases hg
      obtain ⟨v, rfl, br⟩ := hd.one
      obtain ⟨a, vs, rfl, h1, h2⟩ := br.lst
      rw [Vals.ref1 r]
      obtain ⟨hz, its, n, rv, hl, ho⟩ := Inv.rdM I h1
      unfold sortOkB at hc
      rw [Bool.and_eq_true, Bool.and_eq_true] at hc
      have h2' : FzA X.K H vs ds := by rw [← hK]; exact h2
      have ez := each_VZ rv h2'
      have e0 := each_reads I ez
      have hds : ds.length ≤ sizeLine := by rw [← h2.length]; exact hz
      refine sorted_data (bs := ds) (enc := id) (R := VZ X.K H) (l := a) ⟨_, ho, rfl, n, rfl⟩ ez e0 (by simpa using allAlike_of hc.1.1) (by simpa using sortable_of hc.1.2) hds
        (fun b hb => by have := of_decide_eq_true (List.all_eq_true.mp hc.2 b hb); simp only [id]; omega) fun out hlen eo => ?_
      obtain ⟨ws, h3, h4⟩ := each_VZ_out eo
      obtain ⟨c, hc2⟩ := sortedAll_at s.heap its out.toArray
      have kp : ∀ b o, s.heap.get? b = some o → (sortedAll s.heap its out.toArray).get? b = some o := fun b o e => sortedAll_old e
      have hn : H (s.heap.objs.size + 1) = none := I.hok.fresh (Nat.le_succ _)
      have hw : ws.length ≤ sizeLine := by rw [h3.length, hlen]; exact hds
      exact ⟨.ref (s.heap.objs.size + 1), upd H (s.heap.objs.size + 1) (.lst ws), I.laid (t' := s.toks) kp (Nat.le_succ _) ⟨hw, out, c, h3, hc2⟩, rfl, q _ _ (grow_new hn) (rn_own hn (by rw [hK]; exact h4))⟩
    · cases hg
  · cases hg
end
end DL
set_option Elab.async false
set_option linter.all false
set_option maxRecDepth 100000
set_option maxHeartbeats 4000000
/-! DS: statements. -/
namespace DL
open PySem PySem.Spec PyProof.Rows L2 LamX TL

/-- what is locked stays so, tuples stay -/
structure SmF (H H' : Hp) : Prop where
  frz : ∀ a o u, H a = some (.frz o u) → H' a = some (.frz o u)
  tup : ∀ a xs, H a = some (.tup xs) → H' a = some (.tup xs)
theorem SmF.refl (H : Hp) : SmF H H := ⟨fun _ _ _ h => h, fun _ _ h => h⟩
theorem SmF.trans {H H1 H2 : Hp} (a : SmF H H1) (b : SmF H1 H2) : SmF H H2 := ⟨fun c o u h => b.frz c o u (a.frz c o u h), fun c xs h => b.tup c xs (a.tup c xs h)⟩
theorem SmC.smF {ρ : List Addr} {H H' : Hp} (h : SmC ρ H H') : SmF H H' where
  frz := fun a o u e => by
    rcases h a _ e with q | ⟨_, vs, vs', q, _⟩ | ⟨ps, _, q, _⟩
    · exact q
    · cases q
    · cases q
  tup := fun a xs e => by
    rcases h a _ e with q | ⟨_, vs, vs', q, _⟩ | ⟨ps, _, q, _⟩
    · exact q
    · cases q
    · cases q
theorem Ext.smF {ρ ρ' : List Addr} {H H' : Hp} (e : Ext ρ H ρ' H') : SmF H H' := e.sm.smF
section
variable {K : PySem.W.Frag} {H H' : Hp}
theorem sqT_monoF (h : SmF H H') {a : Addr} {xs : List V} (q : SqT K H a xs) : SqT K H' a xs := by
  rcases q with (q | ⟨o, q⟩) | q
  · exact .inl (.inl (h.tup _ _ q))
  · exact .inl (.inr ⟨o, h.frz _ _ _ q⟩)
  · exact .inr q
mutual
theorem Fz.monoF (h : SmF H H') : ∀ {v : V} {d : D}, Fz K H v d → Fz K H' v d
  | _, _, .non => .non
  | _, _, .bl b => .bl b
  | _, _, .int i => .int i
  | _, _, .str x q => .str x q
  | _, _, .lst e r => .lst (h.frz _ _ _ e) (FzA.monoF h r)
  | _, _, .tup e r => .tup (sqT_monoF h e) (FzA.monoF h r)
theorem FzA.monoF (h : SmF H H') : ∀ {vs : List V} {ds : List D}, FzA K H vs ds → FzA K H' vs ds
  | _, _, .nil => .nil
  | _, _, .cons r t => .cons (Fz.monoF h r) (FzA.monoF h t)
end
end

/-- the slots, told of a def's entry: what it owns is its own -/
structure SRs (G : Gx) (ρ₀ : List Addr) (H₀ B : Hp) (ρ : List Addr) (H : Hp) (σ : L2.St) (env : Envd) : Prop where
  sr : SR G ρ H σ env
  ext : Ext ρ₀ H₀ ρ H
  mine : ∀ (i : Nat) (ds : List D) (a : Addr), env[i]? = some (some (.own ds)) → σ[i]? = some (some (.ref a)) → H₀ a = none
  loc : SmF B H
def OutS (G : Gx) (E : XK) (ρ₀ : List Addr) (H₀ B : Hp) (o : Res (Fl × Envd × Hs)) (Dn : Ends) : Prop :=
  match o with
  | .ok (.nx, env', hs') => ∀ ρ' σ' H', SRs G ρ₀ H₀ B ρ' H' σ' env' → Wd G ρ' H' hs' → Dn.nx σ' H'
  | .ok (.bk, env', hs') => ∀ ρ' σ' H', SRs G ρ₀ H₀ B ρ' H' σ' env' → Wd G ρ' H' hs' → Dn.bk σ' H'
  | .ok (.ct, env', hs') => ∀ ρ' σ' H', SRs G ρ₀ H₀ B ρ' H' σ' env' → Wd G ρ' H' hs' → Dn.ct σ' H'
  | .ok (.rt r, _, hs') => ∀ ρ' v H', Ext ρ₀ H₀ ρ' H' → Wd G ρ' H' hs' → RR G H₀ ρ' H' v r → Dn.rt v H'
  | .exc c d hs' => ∀ ρ' H', Ext ρ₀ H₀ ρ' H' → Wd G ρ' H' hs' → ExcR G c d E H'
  | .stuck => False
def tS (G : Gx) (E : XK) (ρ₀ : List Addr) (H₀ B : Hp) (m : XS) : TS := fun Dn σ H => ∃ ρ env hs, SRs G ρ₀ H₀ B ρ H σ env ∧ Wd G ρ H hs ∧ OutS G E ρ₀ H₀ B (m env hs) Dn
structure DS (X : Cx) (G : Gx) (E : XK) (ρ₀ : List Addr) (H₀ B : Hp) (st : Stmt) (m : XS) : Prop where
  hK : G.K = X.K
  ps : PS X st (tS G E ρ₀ H₀ B m)
structure DSs (X : Cx) (G : Gx) (E : XK) (ρ₀ : List Addr) (H₀ B : Hp) (st : List Stmt) (m : XS) : Prop where
  hK : G.K = X.K
  ps : PSs X st (tS G E ρ₀ H₀ B m)
/-- what a context is asked for -/
structure CxD (X : Cx) : Prop where
  nd : X.N.Nodup
  calm : X.calm = true
  po : PassesOwn (model X.prog X.w) X.A X.env X.xe

/-- an expression within a statement -/
def bindE {α : Type} (o : Res (α × Hs)) (f : α → Hs → Res (Fl × Envd × Hs)) : Res (Fl × Envd × Hs) := match o with
  | .ok (a, hs) => f a hs
  | .exc c d hs => .exc c d hs
  | .stuck => .stuck
theorem outS_seq {G : Gx} {E : XK} {ρ₀ ρ : List Addr} {H₀ B H : Hp} {α : Type} {o : Res (α × Hs)} {f : α → Hs → Res (Fl × Envd × Hs)} {Dn : Ends} (e0 : Ext ρ₀ H₀ ρ H) (h : OutS G E ρ₀ H₀ B (bindE o f) Dn) :
    Out G E ρ H o fun a ρ1 hs1 H1 => OutS G E ρ₀ H₀ B (f a hs1) Dn := by
  cases o with
  | ok p => exact fun ρ1 H1 e1 w1 => h
  | exc c d hs => exact fun ρ1 H1 e1 w1 => h ρ1 H1 (e0.trans e1) w1
  | stuck => exact h
theorem SRs.ext' {G : Gx} {ρ₀ ρ ρ1 : List Addr} {H₀ B H H1 : Hp} {σ : L2.St} {env : Envd} (R : SRs G ρ₀ H₀ B ρ H σ env) (e : Ext ρ H ρ1 H1) : SRs G ρ₀ H₀ B ρ1 H1 σ env := ⟨R.sr.ext e, R.ext.trans e, R.mine, R.loc.trans e.smF⟩
/-- a slot is stored -/
theorem SRs.set {G : Gx} {ρ₀ ρ ρ1 : List Addr} {H₀ B H H1 : Hp} {σ : L2.St} {env : Envd} {i : Nat} {r : SV} {v : V} (R : SRs G ρ₀ H₀ B ρ H σ env) (e : Ext ρ H ρ1 H1) (h : RR G H ρ1 H1 v r) : SRs G ρ₀ H₀ B ρ1 H1 (σ.set i (some v)) (env.set i (some r)) := by
  have R1 := R.sr.ext e
  have hl : env.length = σ.length := R1.len
  refine ⟨⟨by simp [hl], fun j => ?_, fun j k ds es u hjk h1 h2 h3 h4 => ?_⟩, R.ext.trans e, fun j ds a h1 h2 => ?_, R.loc.trans e.smF⟩
  · by_cases hj : j = i
    · subst hj
      by_cases hi : j < σ.length
      · rw [List.getElem?_set_self hi, List.getElem?_set_self (by omega)]
        show SlotR G ρ1 H1 (some v) (some r)
        cases r with
        | dat d => exact h
        | own ds => obtain ⟨a, vs, q1, q2, q3, q4, q5⟩ := h; exact ⟨a, vs, q1, q2, q4, q5⟩
        | cell k => exact h
        | scr k => exact h
      · rw [List.getElem?_eq_none (by simp; omega), List.getElem?_eq_none (by simp; omega)]
        trivial
    · rw [List.getElem?_set_ne (Ne.symm hj), List.getElem?_set_ne (Ne.symm hj)]
      exact R1.at_ j
  · -- two slots that own
    have key : ∀ j k (ds es : List D), j ≠ k → j = i → (env.set i (some r))[j]? = some (some (.own ds)) → (env.set i (some r))[k]? = some (some (.own es)) → (σ.set i (some v))[j]? = some (some u) → (σ.set i (some v))[k]? = some (some u) → False := by
      intro j' k' ds' es' hjk' hj' g1 g2 g3 g4
      subst hj'
      have hi : j' < env.length := by
        have := (List.getElem?_eq_some_iff.mp g1).1
        simpa using this
      rw [List.getElem?_set_self hi] at g1
      rw [List.getElem?_set_self (by omega)] at g3
      rw [List.getElem?_set_ne hjk'] at g2 g4
      have er : r = .own ds' := Option.some.inj (Option.some.inj g1)
      have ev : v = u := Option.some.inj (Option.some.inj g3)
      rw [er, ev] at h
      obtain ⟨a, vs, eu, q2, q3, q4, q5⟩ := h
      have hk := R.sr.at_ k'
      rw [g2, g4] at hk
      obtain ⟨a', vs', e1, e2, _⟩ := hk
      rw [eu] at e1
      cases e1
      rw [q3] at e2; cases e2
    by_cases hj : j = i
    · exact key j k ds es hjk hj h1 h2 h3 h4
    · by_cases hk : k = i
      · exact key k j es ds (Ne.symm hjk) hk h2 h1 h4 h3
      · rw [List.getElem?_set_ne (Ne.symm hj)] at h1 h3
        rw [List.getElem?_set_ne (Ne.symm hk)] at h2 h4
        exact R.sr.apart j k ds es u hjk h1 h2 h3 h4
  · by_cases hj : j = i
    · subst hj
      have hi : j < env.length := by
        have := (List.getElem?_eq_some_iff.mp h1).1
        simpa using this
      rw [List.getElem?_set_self hi] at h1
      rw [List.getElem?_set_self (by omega)] at h2
      cases h1; cases h2
      obtain ⟨a', vs, q1, q2, q3, _⟩ := h
      cases q1
      exact R.ext.none q3
    · rw [List.getElem?_set_ne (Ne.symm hj)] at h1 h2
      exact R.mine j ds a h1 h2

section
variable {X : Cx} {G : Gx} {E : XK} {ρ₀ : List Addr} {H₀ B : Hp} {a b c e : Expr} {es : List Expr} {pos p : Pos} {ma mb mc : XD} {m : XE} {mA : XA} {x : Str} {st : Stmt} {sts : List Stmt} {m1 m2 : XS}

/-! ### blocks -/
def xNext : XS := fun env hs => .ok (.nx, env, hs)
def xSeq (m1 m2 : XS) : XS := fun env hs => match m1 env hs with
  | .ok (.nx, env1, hs1) => m2 env1 hs1
  | r => r
theorem dss_nil (hK : G.K = X.K := by rfl) : DSs X G E ρ₀ H₀ B [] xNext := ⟨hK, PSs.less pss_nil fun D σ H h => by
  obtain ⟨ρ, env, hs, R, w, q⟩ := h
  exact q ρ σ H R w⟩
theorem dss_cons (h1 : DS X G E ρ₀ H₀ B st m1) (h2 : DSs X G E ρ₀ H₀ B sts m2) : DSs X G E ρ₀ H₀ B (st :: sts) (xSeq m1 m2) := by
  refine ⟨h1.hK, PSs.less (pss_cons h1.ps h2.ps) fun D σ H h => ?_⟩
  obtain ⟨ρ, env, hs, R, w, q⟩ := h
  refine ⟨ρ, env, hs, R, w, ?_⟩
  unfold xSeq at q
  cases em : m1 env hs with
  | stuck => rw [em] at q; exact q
  | exc c d hs' => rw [em] at q; exact q
  | ok r =>
    obtain ⟨f, env1, hs1⟩ := r
    rw [em] at q
    cases f with
    | nx => exact fun ρ' σ' H' R' w' => ⟨ρ', env1, hs1, R', w', q⟩
    | bk => exact q
    | ct => exact q
    | rt r => exact q
theorem dss_one (h1 : DS X G E ρ₀ H₀ B st m1) : DSs X G E ρ₀ H₀ B [st] m1 := ⟨h1.hK, pss_one h1.ps⟩

/-! ### small statements -/
theorem ds_pass (hK : G.K = X.K := by rfl) : DS X G E ρ₀ H₀ B (.Pass pos) xNext := ⟨hK, PS.less ps_pass fun D σ H h => by
  obtain ⟨ρ, env, hs, R, w, q⟩ := h
  exact q ρ σ H R w⟩
/-- what an expression within a statement is asked -/
theorem tD_s {σ : L2.St} {H : Hp} {ρ : List Addr} {env : Envd} {hs : Hs} {f : SV → Hs → Res (Fl × Envd × Hs)} {Dn : Ends} {Q : VK} (R : SRs G ρ₀ H₀ B ρ H σ env) (w : Wd G ρ H hs)
    (h : OutS G E ρ₀ H₀ B (bindE (m env hs) f) Dn) (k : ∀ r ρ1 hs1 H1, Ext ρ H ρ1 H1 → Wd G ρ1 H1 hs1 → OutS G E ρ₀ H₀ B (f r hs1) Dn → ∀ v, RR G H ρ1 H1 v r → Q v H1) : tD G E m σ H Q :=
  ⟨ρ, env, hs, R.sr, w, Out.imp (outS_seq R.ext h) fun r hs1 ρ1 H1 em e1 w1 q v rr => k r ρ1 hs1 H1 e1 w1 q v rr⟩
theorem tB_s {σ : L2.St} {H : Hp} {ρ : List Addr} {env : Envd} {hs : Hs} {f : D → Hs → Res (Fl × Envd × Hs)} {Dn : Ends} {Q : VK} (R : SRs G ρ₀ H₀ B ρ H σ env) (w : Wd G ρ H hs)
    (h : OutS G E ρ₀ H₀ B (bindE (ma env hs) f) Dn) (k : ∀ r ρ1 hs1 H1, Ext ρ H ρ1 H1 → Wd G ρ1 H1 hs1 → OutS G E ρ₀ H₀ B (f r hs1) Dn → ∀ v, Br G.K ρ1 H1 v r → Q v H1) : tB G E ma σ H Q :=
  ⟨ρ, env, hs, R.sr, w, Out.imp (outS_seq R.ext h) fun r hs1 ρ1 H1 em e1 w1 q v rr => k r ρ1 hs1 H1 e1 w1 q v rr⟩
theorem tT_s {t : XB} {σ : L2.St} {H : Hp} {ρ : List Addr} {env : Envd} {hs : Hs} {f : Bool → Hs → Res (Fl × Envd × Hs)} {Dn : Ends} {Q : Bool → Hp → Prop} (R : SRs G ρ₀ H₀ B ρ H σ env) (w : Wd G ρ H hs)
    (h : OutS G E ρ₀ H₀ B (bindE (t env hs) f) Dn) (k : ∀ r ρ1 hs1 H1, Ext ρ H ρ1 H1 → Wd G ρ1 H1 hs1 → OutS G E ρ₀ H₀ B (f r hs1) Dn → Q r H1) : tT G E t σ H Q :=
  ⟨ρ, env, hs, R.sr, w, Out.imp (outS_seq R.ext h) fun r hs1 ρ1 H1 em e1 w1 q => k r ρ1 hs1 H1 e1 w1 q⟩
def xDrop (m : XE) : XS := fun env hs => bindE (m env hs) fun _ hs1 => .ok (.nx, env, hs1)
theorem ds_expr (he : DE X G E e m) (hs : swapsWith e none pos.line X.env = pure false := by rfl) : DS X G E ρ₀ H₀ B (.Expr e pos) (xDrop m) := ⟨he.hK, PS.less (ps_expr he.pe hs) fun D σ H h => by
  obtain ⟨ρ, env, hs, R, w, q⟩ := h
  exact tD_s R w q fun r ρ1 hs1 H1 e1 w1 q1 v rr => q1 ρ1 σ H1 (R.ext' e1) w1⟩
def xRet (m : XE) : XS := fun env hs => bindE (m env hs) fun r hs1 => .ok (.rt r, env, hs1)
theorem rr_up {ρ ρ' : List Addr} {H H' : Hp} {v : V} {r : SV} (e : Ext ρ₀ H₀ ρ H) (h : RR G H ρ' H' v r) : RR G H₀ ρ' H' v r := rr_ext0 e h
theorem ds_ret (he : DE X G E e m) : DS X G E ρ₀ H₀ B (.Return (some e) pos) (xRet m) := ⟨he.hK, PS.less (ps_ret he.pe) fun D σ H h => by
  obtain ⟨ρ, env, hs, R, w, q⟩ := h
  exact tD_s R w q fun r ρ1 hs1 H1 e1 w1 q1 v rr => q1 ρ1 v H1 (R.ext.trans e1) w1 (rr_up R.ext rr)⟩
/-- a name that owns its list is handed back -/
def xRetOwn (i : Nat) : XS := fun env hs => match env[i]?.join with
  | some r => .ok (.rt r, env, hs)
  | none => .stuck
theorem join_some {α : Type} {o : Option (Option α)} {x : α} (h : o.join = some x) : o = some (some x) := by
  cases o with
  | none => cases h
  | some o => cases o with
    | none => cases h
    | some y => cases h; rfl
theorem ds_retOwn (i : Nat) {q : Pos} (hK : G.K = X.K := by rfl) (hN : X.N[i]? = some x := by rfl) (hv : Vis X.env.scope x := by first | exact Or.inl rfl | exact Or.inr (Or.inl rfl) | exact Or.inr (Or.inr rfl))
    (hd : (x == ("__debug__" : Str)) = false := by decide) (hcd : (x == ("__classdict__" : Str)) = false := by decide) : DS X G E ρ₀ H₀ B (.Return (some (.Name x q)) pos) (xRetOwn i) := by
  refine ⟨hK, PS.less (ps_ret (pe_var hN hv hd hcd)) fun D σ H h => ?_⟩
  obtain ⟨ρ, env, hs, R, w, q⟩ := h
  unfold xRetOwn at q
  split at q
  · rename_i r er
    obtain ⟨v, e1, e2⟩ := slot_get R.sr er
    refine ⟨v, e1, q ρ v H R.ext w ?_⟩
    cases r with
    | dat d => exact e2
    | own ds =>
      obtain ⟨a, vs, rfl, h1, h2, h3⟩ := e2
      exact ⟨a, vs, rfl, h1, R.mine i ds a (join_some er) e1, h2, h3⟩
    | cell k => exact e2
    | scr k => exact e2
  · exact q.elim
/-- x = e -/
def xSet (i : Nat) (m : XE) : XS := fun env hs => bindE (m env hs) fun r hs1 => .ok (.nx, env.set i (some r), hs1)
theorem ds_set (i : Nat) {q : Pos} (C : CxD X) (he : DE X G E e m) (hi : X.N[i]? = some x := by rfl) (hx : Loc X.env.scope x := by first | exact Or.inl rfl | exact Or.inr rfl) (hs : swapsWith e (some (.Name x q)) pos.line X.env = pure false := by rfl)
    (hf : X.fn x = true ∨ X.env.scope.names.lookup x = some .local := by first | exact .inl rfl | exact .inr rfl | assumption) : DS X G E ρ₀ H₀ B (.Assign [.Name x q] e pos) (xSet i m) :=
  ⟨he.hK, PS.less (ps_set C.nd hi hx he.pe hs hf) fun D σ H h => by
    obtain ⟨ρ, env, hs, R, w, q⟩ := h
    exact tD_s R w q fun r ρ1 hs1 H1 e1 w1 q1 v rr => q1 ρ1 _ H1 (R.set e1 rr) w1⟩
/-- x += e of ints -/
def xAug (i : Nat) (g : Op2) (mb : XD) : XS := fun env hs => match env[i]?.join with
  | some (.dat d) => bindE (mb env hs) fun e hs1 => match g d e with
    | some (.dat r) => .ok (.nx, env.set i (some (.dat r)), hs1)
    | _ => .stuck
  | _ => .stuck
def addI : Op2
  | .int i, .int j => some (.dat (.int (i + j)))
  | _, _ => none
theorem ds_augAdd (i : Nat) {q : Pos} (C : CxD X) (he : DBo X G E e mb) (hi : X.N[i]? = some x := by rfl) (hx : Loc X.env.scope x := by first | exact Or.inl rfl | exact Or.inr rfl)
    (hf : X.fn x = true ∨ X.env.scope.names.lookup x = some .local := by first | exact .inl rfl | exact .inr rfl | assumption) : DS X G E ρ₀ H₀ B (.AugAssign (.Name x q) .Add e pos) (xAug i addI mb) :=
  ⟨he.hK, PS.less (ps_aug C.nd hi hx he.pe ip_add hf) fun D σ H h => by
    obtain ⟨ρ, env, hs, R, w, q⟩ := h
    unfold xAug at q
    split at q
    · rename_i d ed
      obtain ⟨v, e1, e2⟩ := slot_get R.sr ed
      refine ⟨v, e1, tB_s R w q fun r ρ1 hs1 H1 x1 w1 q1 u br => ?_⟩
      split at q1
      · rename_i z hz
        unfold addI at hz
        split at hz
        · cases hz
          cases (show Fz G.K H v (.int _) from e2)
          exact ⟨_, _, rfl, br.int, q1 ρ1 _ H1 (R.set x1 (r := .dat (.int _)) (.int _)) w1⟩
        · cases hz
      · exact q1.elim
    · exact q.elim⟩
def xIfS (t : XB) (m1 m2 : XS) : XS := fun env hs => bindE (t env hs) fun k hs1 => if k = true then m1 env hs1 else m2 env hs1
theorem ds_if {sts2 : List Stmt} {t : XB} (hc : DT X G E c t) (ha : DSs X G E ρ₀ H₀ B sts m1) (hb : DSs X G E ρ₀ H₀ B sts2 m2) : DS X G E ρ₀ H₀ B (.If c sts sts2 pos) (xIfS t m1 m2) :=
  ⟨hc.hK, PS.less (ps_if hc.pt ha.ps hb.ps) fun D σ H h => by
    obtain ⟨ρ, env, hs, R, w, q⟩ := h
    refine tT_s R w q fun k ρ1 hs1 H1 e1 w1 q1 => ?_
    cases k with
    | true => rw [if_pos rfl] at q1 ⊢; exact ⟨ρ1, env, hs1, R.ext' e1, w1, q1⟩
    | false => rw [if_neg Bool.false_ne_true] at q1 ⊢; exact ⟨ρ1, env, hs1, R.ext' e1, w1, q1⟩⟩
end
end DL
set_option Elab.async false
set_option linter.all false
set_option maxRecDepth 100000
set_option maxHeartbeats 4000000
/-! DT: targets, what is walked, for, while. -/
namespace DL
open PySem PySem.Spec PyProof.Rows L2 LamX TL

/-! ### targets -/
abbrev XG := D → Envd → Option Envd
/-- owned slots are as they were -/
def Kp (σ : L2.St) (env : Envd) (σ' : L2.St) (env' : Envd) : Prop := ∀ (i : Nat) (ds : List D), env'[i]? = some (some (.own ds)) → env[i]? = some (some (.own ds)) ∧ σ'[i]? = σ[i]?
theorem Kp.refl {σ : L2.St} {env : Envd} : Kp σ env σ env := fun _ _ h => ⟨h, rfl⟩
theorem Kp.trans {σ σ1 σ2 : L2.St} {env env1 env2 : Envd} (a : Kp σ env σ1 env1) (b : Kp σ1 env1 σ2 env2) : Kp σ env σ2 env2 := fun i ds h => by
  obtain ⟨h1, h2⟩ := b i ds h
  obtain ⟨h3, h4⟩ := a i ds h1
  exact ⟨h3, h2.trans h4⟩
theorem SR.set {G : Gx} {ρ : List Addr} {H : Hp} {σ : L2.St} {env : Envd} {i : Nat} {d : D} {v : V} (R : SR G ρ H σ env) (h : Fz G.K H v d) : SR G ρ H (σ.set i (some v)) (env.set i (some (.dat d))) ∧ Kp σ env (σ.set i (some v)) (env.set i (some (.dat d))) := by
  have kp : Kp σ env (σ.set i (some v)) (env.set i (some (.dat d))) := fun j ds e => by
    by_cases hj : j = i
    · subst hj
      have hi : j < env.length := by
        have := (List.getElem?_eq_some_iff.mp e).1
        simpa using this
      rw [List.getElem?_set_self hi] at e
      cases e
    · rw [List.getElem?_set_ne (Ne.symm hj)] at e ⊢
      exact ⟨e, rfl⟩
  have hl : env.length = σ.length := R.len
  refine ⟨⟨by simp [hl], fun j => ?_, fun j k ds es u hjk h1 h2 h3 h4 => ?_⟩, kp⟩
  · by_cases hj : j = i
    · subst hj
      by_cases hi : j < σ.length
      · rw [List.getElem?_set_self hi, List.getElem?_set_self (by omega)]
        exact h
      · rw [List.getElem?_eq_none (by simp; omega), List.getElem?_eq_none (by simp; omega)]
        trivial
    · rw [List.getElem?_set_ne (Ne.symm hj), List.getElem?_set_ne (Ne.symm hj)]
      exact R.at_ j
  · obtain ⟨a1, a2⟩ := kp j ds h1
    obtain ⟨b1, b2⟩ := kp k es h2
    exact R.apart j k ds es u hjk a1 b1 (a2 ▸ h3) (b2 ▸ h4)
theorem SRs.kp {G : Gx} {ρ₀ ρ : List Addr} {H₀ B H : Hp} {σ σ' : L2.St} {env env' : Envd} (R : SRs G ρ₀ H₀ B ρ H σ env) (R' : SR G ρ H σ' env') (k : Kp σ env σ' env') : SRs G ρ₀ H₀ B ρ H σ' env' :=
  ⟨R', R.ext, fun i ds a h1 h2 => by
    obtain ⟨e1, e2⟩ := k i ds h1
    exact R.mine i ds a e1 (e2 ▸ h2), R.loc⟩
def tG (G : Gx) (g : XG) : TG := fun v σ H Q => ∃ ρ env d env', SR G ρ H σ env ∧ Fz G.K H v d ∧ g d env = some env' ∧ ∀ σ', SR G ρ H σ' env' → Kp σ env σ' env' → Q σ' H
structure DG_ (X : Cx) (G : Gx) (e : Expr) (g : XG) : Prop where
  hK : G.K = X.K
  pg : PG X e (tG G g)
abbrev XGs := List D → Envd → Option Envd
def tGs (G : Gx) (g : XGs) : TGs := fun vs σ H Q => ∃ ρ env ds env', SR G ρ H σ env ∧ FzA G.K H vs ds ∧ g ds env = some env' ∧ ∀ σ', SR G ρ H σ' env' → Kp σ env σ' env' → Q σ' H
structure DGs_ (X : Cx) (G : Gx) (es : List Expr) (g : XGs) : Prop where
  hK : G.K = X.K
  pg : PGs X es (tGs G g)
theorem PG.less {X : Cx} {e : Expr} {t t' : TG} (h : PG X e t) (i : ∀ v σ H Q, t' v σ H Q → t v σ H Q) : PG X e t' := ⟨fun pins s σ H v u Q I r q => h.run pins s σ H v u Q I r (i v σ H Q q)⟩
theorem PGs.less {X : Cx} {e : List Expr} {t t' : TGs} (h : PGs X e t) (i : ∀ v σ H Q, t' v σ H Q → t v σ H Q) : PGs X e t' := ⟨fun pins s σ H v u Q I r q => h.run pins s σ H v u Q I r (i v σ H Q q)⟩
section
variable {X : Cx} {G : Gx} {E : XK} {ρ₀ : List Addr} {H₀ B : Hp} {a b c e iter tg : Expr} {es : List Expr} {pos p : Pos} {ma mb mc : XD} {m : XE} {mA : XA} {x : Str} {st : Stmt} {sts : List Stmt} {m1 m2 mb' : XS} {g : XG} {gs : XGs}
def gNm (i : Nat) : XG := fun d env => some (env.set i (some (.dat d)))
theorem dg_name (i : Nat) (hN : X.N.Nodup) (hi : X.N[i]? = some x := by rfl) (hx : Loc X.env.scope x := by first | exact Or.inl rfl | exact Or.inr rfl) (hK : G.K = X.K := by rfl) (hf : X.fn x = true ∨ X.env.scope.names.lookup x = some .local := by first | exact .inl rfl | exact .inr rfl | assumption) :
    DG_ X G (.Name x pos) (gNm i) := ⟨hK, PG.less (pg_name hN hi hx hf) fun v σ H Q h => by
  obtain ⟨ρ, env, d, env', R, f, eg, q⟩ := h
  cases eg
  obtain ⟨R', k⟩ := R.set (i := i) f
  exact q _ R' k⟩
def gsNil : XGs := fun ds env => match ds with
  | [] => some env
  | _ => none
def gsCons (g : XG) (gs : XGs) : XGs := fun ds env => match ds with
  | d :: r => (g d env).bind fun env1 => gs r env1
  | [] => none
theorem dgs_nil (hK : G.K = X.K := by rfl) : DGs_ X G [] gsNil := ⟨hK, PGs.less pgs_nil fun v σ H Q h => by
  obtain ⟨ρ, env, ds, env', R, f, eg, q⟩ := h
  unfold gsNil at eg
  split at eg
  · cases eg; cases f; exact ⟨rfl, q σ R Kp.refl⟩
  · cases eg⟩
theorem dgs_cons (h1 : DG_ X G e g) (h2 : DGs_ X G es gs) (hs : (assignEach (e :: es) X.env).map (·.2) = assign e X.env :: (assignEach es X.env).map (·.2) := by rfl) : DGs_ X G (e :: es) (gsCons g gs) := ⟨h1.hK, PGs.less (pgs_cons h1.pg h2.pg hs) fun v σ H Q h => by
  obtain ⟨ρ, env, ds, env', R, f, eg, q⟩ := h
  unfold gsCons at eg
  split at eg
  · rename_i d r
    obtain ⟨env1, e1, e2⟩ := Option.bind_eq_some_iff.mp eg
    cases f with
    | cons f1 f2 =>
      exact ⟨_, _, rfl, ρ, env, d, env1, R, f1, e1, fun σ1 R1 k1 => ⟨ρ, env1, r, env', R1, f2, e2, fun σ2 R2 k2 => q σ2 R2 (k1.trans k2)⟩⟩
  · cases eg⟩
def gTu (gs : XGs) (n : Nat) : XG := fun d env => match d with
  | .tuple ds => if ds.length = n then gs ds env else none
  | _ => none
theorem dg_tup {k n : Nat} (hc : X.calm = true) (h : DGs_ X G es gs) (hn : (assignEach es X.env).length = n := by rfl) (hst : (assignEach es X.env).findIdx? (·.1) = none := by rfl) : DG_ X G (.Tuple es k pos) (gTu gs n) := ⟨h.hK, PG.less (pg_tup hc h.pg hn hst) fun v σ H Q hq => by
  obtain ⟨ρ, env, d, env', R, f, eg, q⟩ := hq
  unfold gTu at eg
  split at eg
  · split at eg
    · rename_i ds hn'
      cases f with
      | tup f1 f2 => exact ⟨_, _, rfl, by rw [← h.hK]; exact f1, by rw [f2.length]; exact hn', ρ, env, ds, env', R, f2, eg, q⟩
    · cases eg
  · cases eg⟩
/-- a, b = e -/
def xAsg (g : XG) (m : XE) : XS := fun env hs => bindE (m env hs) fun r hs1 => match r with
  | .dat d => match g d env with
    | some env' => .ok (.nx, env', hs1)
    | none => .stuck
  | _ => .stuck
theorem ds_asg (he : DE X G E e m) (hg : DG_ X G tg g) (hs : swapsWithSole [tg] e pos.line X.env = pure false := by rfl) (hw : swappedStores [tg] e X.env = pure none := by rfl)
    (h1 : (assignEach [tg] X.env).map (·.2) = [assign tg X.env] := by rfl) : DS X G E ρ₀ H₀ B (.Assign [tg] e pos) (xAsg g m) := ⟨he.hK, PS.less (ps_asg he.pe hg.pg hs hw h1) fun D σ H h => by
  obtain ⟨ρ, env, hs, R, w, q⟩ := h
  refine tD_s R w q fun r ρ1 hs1 H1 e1 w1 q1 v rr => ?_
  split at q1
  · rename_i d
    split at q1
    · rename_i env' eg
      have R1 := R.ext' e1
      exact ⟨ρ1, env, d, env', R1.sr, rr, eg, fun σ' R' k => q1 ρ1 σ' H1 (R1.kp R' k) w1⟩
    · exact q1.elim
  · exact q1.elim⟩

/-! ### while -/
def xWhile (t : XB) (mb : XS) : Nat → XS
  | 0 => fun _ _ => .stuck
  | n + 1 => fun env hs => bindE (t env hs) fun k hs1 => if k = true then (match mb env hs1 with
      | .ok (.nx, env', hs') => xWhile t mb n env' hs'
      | .ok (.ct, env', hs') => xWhile t mb n env' hs'
      | .ok (.bk, env', hs') => .ok (.nx, env', hs')
      | r => r) else .ok (.nx, env, hs1)
theorem ds_while {t : XB} (n : Nat) (C : CxD X) (hc : DT X G E c t) (hb : DSs X G E ρ₀ H₀ B sts mb') : DS X G E ρ₀ H₀ B (.While c sts [] pos) (xWhile t mb' n) := ⟨hc.hK, PS.less (ps_while C.po hc.pt hb.ps) fun D σ H h => by
  refine ⟨fun m σ H => tS G E ρ₀ H₀ B (xWhile t mb' m) D σ H, ⟨n, h⟩, fun m σ H h => ?_⟩
  obtain ⟨ρ, env, hs, R, w, q⟩ := h
  cases m with
  | zero => exact q.elim
  | succ m =>
    refine tT_s R w q fun k ρ1 hs1 H1 e1 w1 q1 => ?_
    cases k with
    | false => rw [if_neg Bool.false_ne_true] at q1 ⊢; exact q1 ρ1 σ H1 (R.ext' e1) w1
    | true =>
      rw [if_pos rfl] at q1 ⊢
      refine ⟨fun σ' H' => tS G E ρ₀ H₀ B (xWhile t mb' m) D σ' H', fun σ' H' h' => ⟨m, Nat.lt_succ_self m, h'⟩, ρ1, env, hs1, R.ext' e1, w1, ?_⟩
      cases em : mb' env hs1 with
      | stuck => rw [em] at q1; exact q1
      | exc c d hs' => rw [em] at q1; exact q1
      | ok r =>
        obtain ⟨f, env', hs'⟩ := r
        rw [em] at q1
        cases f with
        | nx => exact fun ρ' σ' H' R' w' => ⟨ρ', env', hs', R', w', q1⟩
        | ct => exact fun ρ' σ' H' R' w' => ⟨ρ', env', hs', R', w', q1⟩
        | bk => exact q1
        | rt r => exact q1⟩

/-! ### what is walked -/
structure WkF (G : Gx) (J : It) (ds : List D) (H0 : Hp) : Prop where
  go : ∀ i H, SmF H0 H → i < ds.length → J.go i H
  stop : ∀ H, SmF H0 H → J.stop ds.length H
  yld : ∀ i H x H' d, SmF H0 H → ds[i]? = some d → J.yld i H x H' → Grow H H' ∧ Fz G.K H' x d
def tI (G : Gx) (E : XK) (m : XA) : TI := fun σ H R => ∃ ρ env hs, SR G ρ H σ env ∧ Wd G ρ H hs ∧ Out G E ρ H (m env hs) fun ds ρ' _ H' => ∀ J, WkF G J ds H' → R J H'
structure DI (X : Cx) (G : Gx) (E : XK) (tg e : Expr) (m : XA) : Prop where
  hK : G.K = X.K
  pi : PI X tg e (tI G E m)
theorem PI.less {X : Cx} {tg e : Expr} {t t' : TI} (h : PI X tg e t) (i : ∀ σ H Q, t' σ H Q → t σ H Q) : PI X tg e t' := ⟨fun pins s σ H Q I q => h.run pins s σ H Q I (i σ H Q q)⟩
theorem PI.or {X : Cx} {tg e : Expr} {t t' : TI} (h : PI X tg e t) (h' : PI X tg e t') : PI X tg e (fun σ H R => t σ H R ∨ t' σ H R) := ⟨fun pins s σ H Q I q => q.elim (h.run pins s σ H Q I) (h'.run pins s σ H Q I)⟩
theorem wkF_list {H0 : Hp} {a : Addr} {o : Obj} {vs : List V} {ds : List D} (h : H0 a = some (.frz o (.lst vs))) (f : FzA G.K H0 vs ds) : WkF G (Itl X.K a) ds H0 := by
  have sq : ∀ H, SmF H0 H → SqL X.K H a vs := fun H s => .inl (.inr ⟨o, s.1 _ _ _ h⟩)
  refine ⟨fun i H s hi => ?_, fun H s => ?_, fun i H x H' d s hd y => ?_⟩
  · rw [← f.length] at hi
    exact ⟨vs, vs[i], sq H s, by simp [hi]⟩
  · exact ⟨vs, sq H s, by rw [f.length]; exact Nat.le_refl _⟩
  · obtain ⟨rfl, y2⟩ := y
    obtain ⟨v, e1, e2⟩ := f.get hd
    have e3 := y2 vs (sq H' s)
    rw [e1] at e3; cases e3
    exact ⟨Grow.refl _, Fz.monoF s e2⟩
theorem wkF_tup {H0 : Hp} {a : Addr} {vs : List V} {ds : List D} (hK : G.K = X.K) (h : SqT G.K H0 a vs) (f : FzA G.K H0 vs ds) : WkF G (Itt X.K a) ds H0 := by
  have sq : ∀ H, SmF H0 H → SqT X.K H a vs := fun H s => by rw [← hK]; exact sqT_monoF s h
  refine ⟨fun i H s hi => ?_, fun H s => ?_, fun i H x H' d s hd y => ?_⟩
  · rw [← f.length] at hi
    exact ⟨vs, vs[i], sq H s, by simp [hi]⟩
  · exact ⟨vs, sq H s, by rw [f.length]; exact Nat.le_refl _⟩
  · obtain ⟨rfl, y2⟩ := y
    obtain ⟨v, e1, e2⟩ := f.get hd
    have e3 := y2 vs (sq H' s)
    rw [e1] at e3; cases e3
    exact ⟨Grow.refl _, Fz.monoF s e2⟩
/-- a text's signs -/
def signsD (x : Str) : List D := (tl x).map fun c => .str (mkS [c])
theorem wkF_str {H0 : Hp} {z : Str} (hz : PyData.strOk z = true) : WkF G (Its z) (signsD z) H0 := by
  refine ⟨fun i H s hi => ?_, fun H s => ?_, fun i H x H' d s hd y => ?_⟩
  · show i < z.cps.size
    simpa [signsD] using hi
  · show z.cps.size ≤ _
    simp [signsD]
  · obtain ⟨rfl, c, h1, rfl⟩ := y
    unfold signsD at hd
    rw [List.getElem?_map, Option.map_eq_some_iff] at hd
    obtain ⟨c', h2, rfl⟩ := hd
    have e : (tl z)[i]? = some c := by rw [Array.getElem?_toList]; exact h1
    rw [e] at h2; cases h2
    have hm : c ∈ tl z := List.mem_of_getElem? e
    exact ⟨Grow.refl _, .str _ (strOk_iff.mpr fun w hw => by simp at hw; subst hw; exact strOk_iff.mp hz w hm)⟩
/-- the items of a thing that is walked -/
def itemsD : SV → Option (List D)
  | .dat (.list ds) => some ds
  | .dat (.tuple ds) => some ds
  | .dat (.str x) => some (signsD x)
  | _ => none
def xIter (m : XE) : XA := fun env hs => andThen (m env hs) fun r hs1 => liftO (itemsD r) hs1
theorem di_of (h : DE X G E e m) : DI X G E tg e (xIter m) := by
  refine ⟨h.hK, PI.less (PI.or (pi_list h.pe) (PI.or (pi_tup h.pe) (pi_str h.pe))) fun σ H Q q => ?_⟩
  obtain ⟨ρ, env, hs, R, w, q⟩ := q
  have key : ∀ r hs1, m env hs = .ok (r, hs1) → Out G E ρ H (liftO (itemsD r) hs1) (fun ds ρ' _ H' => ∀ J, WkF G J ds H' → Q J H') := fun r hs1 em => by
    unfold xIter andThen at q
    rw [em] at q
    exact q
  cases em : m env hs with
  | stuck => unfold xIter andThen at q; rw [em] at q; exact q.elim
  | exc c d hs' =>
    unfold xIter andThen at q; rw [em] at q
    exact .inl ⟨ρ, env, hs, R, w, by rw [em]; exact q⟩
  | ok p =>
    obtain ⟨r, hs1⟩ := p
    obtain ⟨ds, hr, q2⟩ := out_lift (key r hs1 em)
    unfold itemsD at hr
    split at hr
    · cases hr
      refine .inl ⟨ρ, env, hs, R, w, ?_⟩
      rw [em]
      intro ρ1 H1 e1 w1 v rr
      cases (show Fz G.K H1 v (.list ds) from rr) with
      | lst f1 f2 => exact ⟨_, rfl, ⟨_, .inl (.inr ⟨_, f1⟩)⟩, q2 ρ1 H1 e1 w1 _ (wkF_list f1 f2)⟩
    · cases hr
      refine .inr (.inl ⟨ρ, env, hs, R, w, ?_⟩)
      rw [em]
      intro ρ1 H1 e1 w1 v rr
      cases (show Fz G.K H1 v (.tuple ds) from rr) with
      | tup f1 f2 => exact ⟨_, rfl, ⟨_, by rw [← h.hK]; exact f1⟩, q2 ρ1 H1 e1 w1 _ (wkF_tup h.hK f1 f2)⟩
    · rename_i z
      cases hr
      refine .inr (.inr ⟨ρ, env, hs, R, w, ?_⟩)
      rw [em]
      intro ρ1 H1 e1 w1 v rr
      cases (show Fz G.K H1 v (.str z) from rr) with
      | str _ hz => exact ⟨z, rfl, q2 ρ1 H1 e1 w1 _ (wkF_str hz)⟩
    · cases hr
/-- range(j), range(i, j), range(i, j, c) -/
def rangeD (lo c : Int) (n : Nat) : List D := (List.range n).map fun (k : Nat) => .int (lo + (k : Int) * c)
theorem wkF_rangeC {H0 : Hp} {lo c : Int} {n : Nat} : WkF G (Itc lo c n) (rangeD lo c n) H0 := by
  refine ⟨fun i H s hi => by show i < n; simpa [rangeD] using hi, fun H s => by show n ≤ _; simp [rangeD], fun i H x H' d s hd y => ?_⟩
  obtain ⟨rfl, rfl⟩ := y
  unfold rangeD at hd
  rw [List.getElem?_map, Option.map_eq_some_iff] at hd
  obtain ⟨k, h2, rfl⟩ := hd
  obtain ⟨_, h3⟩ := List.getElem?_eq_some_iff.mp h2
  simp at h3; subst h3
  exact ⟨Grow.refl _, .int _⟩
theorem wkF_range {H0 : Hp} {lo : Int} {n : Nat} : WkF G (Itr lo n) (rangeD lo 1 n) H0 := by
  refine ⟨fun i H s hi => by show i < n; simpa [rangeD] using hi, fun H s => by show n ≤ _; simp [rangeD], fun i H x H' d s hd y => ?_⟩
  obtain ⟨rfl, rfl⟩ := y
  unfold rangeD at hd
  rw [List.getElem?_map, Option.map_eq_some_iff] at hd
  obtain ⟨k, h2, rfl⟩ := hd
  obtain ⟨_, h3⟩ := List.getElem?_eq_some_iff.mp h2
  simp at h3; subst h3
  rw [Int.mul_one]
  exact ⟨Grow.refl _, .int _⟩
def range1D : List D → Option (List D)
  | [.int j] => if -(2 ^ 62) ≤ j ∧ j < 2 ^ 62 then some (rangeD 0 1 j.toNat) else none
  | _ => none
def range2D : List D → Option (List D)
  | [.int i, .int j] => if -(2 ^ 62) ≤ i ∧ i < 2 ^ 62 ∧ -(2 ^ 62) ≤ j ∧ j < 2 ^ 62 then some (rangeD i 1 (j - i).toNat) else none
  | _ => none
def xRange (g : List D → Option (List D)) (mA : XA) : XA := fun env hs => andThen (mA env hs) fun ds hs1 => liftO (g ds) hs1
theorem di_range1 {pr : Pos} (hg : Gl X "range") (hm : X.mg "range" = none) (ha : DAb X G E [a] mA) (hs : starEach [a] X.env = [(false, eval a X.env)] := by rfl) : DI X G E tg (.Call (.Name "range" pr) [a] [] pos) (xRange range1D mA) :=
  ⟨ha.hK, PI.less (pi_range1 hg hm ha.pa hs) fun σ H Q q => by
    obtain ⟨ρ, env, hs, R, w, q⟩ := q
    refine tAb_seq R w q fun ds ρ1 hs1 H1 e1 w1 q1 vs br => ?_
    obtain ⟨r, hr, q2⟩ := out_lift q1
    unfold range1D at hr
    split at hr
    · split at hr
      · rename_i j hj
        cases hr
        obtain ⟨v, rfl, b⟩ := br.one
        exact ⟨j, by rw [b.int], hj.1, hj.2, q2 ρ1 H1 (Ext.refl _ _) w1 _ wkF_range⟩
      · cases hr
    · cases hr⟩
theorem di_range2 {pr : Pos} (hg : Gl X "range") (hm : X.mg "range" = none) (ha : DAb X G E [a, b] mA) (hs : starEach [a, b] X.env = [(false, eval a X.env), (false, eval b X.env)] := by rfl) (hs2 : starEach [b] X.env = [(false, eval b X.env)] := by rfl) : DI X G E tg (.Call (.Name "range" pr) [a, b] [] pos) (xRange range2D mA) :=
  ⟨ha.hK, PI.less (pi_range2 hg hm ha.pa hs hs2) fun σ H Q q => by
    obtain ⟨ρ, env, hs, R, w, q⟩ := q
    refine tAb_seq R w q fun ds ρ1 hs1 H1 e1 w1 q1 vs br => ?_
    obtain ⟨r, hr, q2⟩ := out_lift q1
    unfold range2D at hr
    split at hr
    · split at hr
      · rename_i i j hj
        cases hr
        obtain ⟨v, u, rfl, b, b2⟩ := br.two
        exact ⟨i, j, by rw [b.int, b2.int], hj, q2 ρ1 H1 (Ext.refl _ _) w1 _ wkF_range⟩
      · cases hr
    · cases hr⟩

/-! ### for -/
def xForL (g : XG) (mb : XS) : List D → XS
  | [] => fun env hs => .ok (.nx, env, hs)
  | d :: r => fun env hs => match g d env with
    | some env1 => match mb env1 hs with
      | .ok (.nx, env', hs') => xForL g mb r env' hs'
      | .ok (.ct, env', hs') => xForL g mb r env' hs'
      | .ok (.bk, env', hs') => .ok (.nx, env', hs')
      | r => r
    | none => .stuck
def xFor (mi : XA) (g : XG) (mb : XS) : XS := fun env hs => bindE (mi env hs) fun ds hs1 => xForL g mb ds env hs1
theorem SRs.base {ρ : List Addr} {H B' : Hp} {σ : L2.St} {env : Envd} (R : SRs G ρ₀ H₀ B ρ H σ env) (h : SmF B' H) : SRs G ρ₀ H₀ B' ρ H σ env := ⟨R.sr, R.ext, R.mine, h⟩
/-- the results of a block, told of a later base -/
theorem OutS.base {o : Res (Fl × Envd × Hs)} {B' : Hp} {D : Ends} (h : OutS G E ρ₀ H₀ B o D) (k : ∀ {ρ : List Addr} {H : Hp} {σ : L2.St} {env : Envd}, SRs G ρ₀ H₀ B' ρ H σ env → SRs G ρ₀ H₀ B ρ H σ env) : OutS G E ρ₀ H₀ B' o D := by
  cases o with
  | stuck => exact h
  | exc c d hs => exact h
  | ok r =>
    obtain ⟨f, env, hs⟩ := r
    cases f with
    | nx => exact fun ρ' σ' H' R w => h ρ' σ' H' (k R) w
    | bk => exact fun ρ' σ' H' R w => h ρ' σ' H' (k R) w
    | ct => exact fun ρ' σ' H' R w => h ρ' σ' H' (k R) w
    | rt r => exact h
def tSx (G : Gx) (E : XK) (ρ₀ : List Addr) (H₀ : Hp) (m : XS) : TS := fun D σ H => ∃ B, tS G E ρ₀ H₀ B m D σ H
theorem pss_x (hb : ∀ B, DSs X G E ρ₀ H₀ B sts mb') : PSs X sts (tSx G E ρ₀ H₀ mb') := ⟨fun pins s σ H D I ⟨B, h⟩ => (hb B).ps.run pins s σ H D I h⟩
theorem ds_for {m0 : XA} (C : CxD X) (hi : DI X G E tg iter m0) (hg : DG_ X G tg g) (hb : ∀ B, DSs X G E ρ₀ H₀ B sts mb') (hs : ∀ x, foldedSetIterable iter X.env x = pure x := by intro _; rfl) : DS X G E ρ₀ H₀ B (.For tg iter sts [] pos) (xFor m0 g mb') := by
  refine ⟨hi.hK, PS.less (ps_for C.po C.calm hi.pi hg.pg (pss_x hb) hs) fun D σ H h => ?_⟩
  obtain ⟨ρ, env, hs', R, w, q⟩ := h
  refine ⟨ρ, env, hs', R.sr, w, Out.imp (outS_seq R.ext q) fun ds hs1 ρ1 H1 em e1 w1 q1 J wk => ?_⟩
  have R1 := R.ext' e1
  refine ⟨fun i m σ H => m + i = ds.length ∧ ∃ ρ env hs, SRs G ρ₀ H₀ H1 ρ H σ env ∧ Wd G ρ H hs ∧ OutS G E ρ₀ H₀ B (xForL g mb' (ds.drop i) env hs) D, ⟨ds.length, rfl, ρ1, env, hs1, R1.base (SmF.refl _), w1, by rw [List.drop_zero]; exact q1⟩, ?_⟩
  rintro i m σ2 H2 ⟨hm, ρ2, env2, hs2, R2, w2, q2⟩
  have back : ∀ {ρ : List Addr} {H : Hp} {σ : L2.St} {env : Envd}, SRs G ρ₀ H₀ H1 ρ H σ env → SRs G ρ₀ H₀ B ρ H σ env := fun r => r.base (R1.loc.trans r.loc)
  cases m with
  | zero =>
    have hl : i = ds.length := by omega
    subst hl
    rw [List.drop_length] at q2
    exact .inl ⟨wk.stop H2 R2.loc, q2 ρ2 σ2 H2 (back R2) w2⟩
  | succ m =>
    have hl : i < ds.length := by omega
    rw [List.drop_eq_getElem_cons hl] at q2
    unfold xForL at q2
    refine .inr ⟨wk.go i H2 R2.loc hl, ?_⟩
    cases eg : g ds[i] env2 with
    | none => rw [eg] at q2; exact q2.elim
    | some env3 =>
      rw [eg] at q2
      dsimp only at q2
      refine ⟨fun σ' H' => m + (i + 1) = ds.length ∧ ∃ ρ env hs, SRs G ρ₀ H₀ H1 ρ H' σ' env ∧ Wd G ρ H' hs ∧ OutS G E ρ₀ H₀ B (xForL g mb' (ds.drop (i + 1)) env hs) D, fun σ' H' h' => ⟨m, Nat.lt_succ_self m, h'⟩, fun x H3 y => ?_⟩
      obtain ⟨gr, fz⟩ := wk.yld i H2 x H3 ds[i] R2.loc (by simp [hl]) y
      have R3 : SRs G ρ₀ H₀ H1 ρ2 H3 σ2 env2 := R2.ext' (.ofAll gr)
      have w3 := w2.ofAll gr
      refine ⟨ρ2, env2, ds[i], env3, R3.sr, fz, eg, fun σ' R' k => ⟨H1, ρ2, env3, hs2, R3.kp R' k, w3, ?_⟩⟩
      cases em : mb' env3 hs2 with
      | stuck => rw [em] at q2; exact q2
      | exc c d hs' => rw [em] at q2; exact q2
      | ok r =>
        obtain ⟨f, env', hs'⟩ := r
        rw [em] at q2
        cases f with
        | nx => exact fun ρ' σ' H' R' w' => ⟨by omega, ρ', env', hs', R', w', q2⟩
        | ct => exact fun ρ' σ' H' R' w' => ⟨by omega, ρ', env', hs', R', w', q2⟩
        | bk => exact fun ρ' σ' H' R' w' => q2 ρ' σ' H' (back R') w'
        | rt r => exact q2
end
end DL
set_option Elab.async false
set_option linter.all false
set_option maxRecDepth 100000
set_option maxHeartbeats 4000000
/-! DU: list comprehensions; lists changed. -/
namespace DL
open PySem PySem.Spec PyProof.Rows L2 LamX TL

def wipeE (env : Envd) : List Nat → Envd
  | [] => env
  | v :: vs => (wipeE env vs).set v none
theorem SR.setNone {G : Gx} {ρ : List Addr} {H : Hp} {σ : L2.St} {env : Envd} (R : SR G ρ H σ env) (i : Nat) : SR G ρ H (σ.set i none) (env.set i none) := by
  have hl : env.length = σ.length := R.len
  refine ⟨by simp [hl], fun j => ?_, fun j k ds es u hjk h1 h2 h3 h4 => ?_⟩
  · by_cases hj : j = i
    · subst hj
      have e : ((env.set j none)[j]?).join = none := by
        by_cases hi : j < env.length
        · rw [List.getElem?_set_self hi]; rfl
        · rw [List.getElem?_eq_none (by simp; omega)]; rfl
      rw [e]
      cases ((σ.set j none)[j]?).join <;> trivial
    · rw [List.getElem?_set_ne (Ne.symm hj), List.getElem?_set_ne (Ne.symm hj)]
      exact R.at_ j
  · have k1 : ∀ {z} {zs}, (env.set i none)[z]? = some (some (SV.own zs)) → z ≠ i := fun {z zs} e q => by
      subst q
      have hi : z < env.length := by
        have := (List.getElem?_eq_some_iff.mp e).1
        simpa using this
      rw [List.getElem?_set_self hi] at e; cases e
    have a1 := k1 h1
    have a2 := k1 h2
    rw [List.getElem?_set_ne (Ne.symm a1)] at h1 h3
    rw [List.getElem?_set_ne (Ne.symm a2)] at h2 h4
    exact R.apart j k ds es u hjk h1 h2 h3 h4
theorem SR.wipe {G : Gx} {ρ : List Addr} {H : Hp} {σ : L2.St} {env : Envd} (R : SR G ρ H σ env) : ∀ vs, SR G ρ H (L2.wipe σ vs) (wipeE env vs)
  | [] => R
  | v :: vs => (R.wipe vs).setNone v
def noX {α : Type} : Res α → Res α
  | .ok a => .ok a
  | _ => .stuck
abbrev EN : XK := fun _ _ _ => False
theorem out_noX {G : Gx} {ρ : List Addr} {H : Hp} {α : Type} {o : Res (α × Hs)} {E : XK} {Q : α → List Addr → Hs → Hp → Prop} (h : Out G E ρ H (noX o) Q) : Out G EN ρ H o Q := by
  cases o with
  | ok p => exact h
  | exc c d hs => exact h.elim
  | stuck => exact h
structure DTs (X : Cx) (G : Gx) (E : XK) (es : List Expr) (m : XB) : Prop where
  hK : G.K = X.K
  pt : PTs X es (tT G E m)
theorem PTs.less {X : Cx} {e : List Expr} {t t' : TT} (h : PTs X e t) (i : ∀ σ H Q, t' σ H Q → t σ H Q) : PTs X e t' := ⟨fun pins s σ H Q I q => h.run pins s σ H Q I (i σ H Q q)⟩
def xYes : XB := fun _ hs => .ok (true, hs)
section
variable {X : Cx} {G : Gx} {E : XK} {ρ₀ : List Addr} {H₀ B : Hp} {a b c e iter tg elt : Expr} {es ifs : List Expr} {pos p : Pos} {ma mb mc : XD} {m me : XE} {mA mi : XA} {x : Str} {st : Stmt} {sts : List Stmt} {m1 m2 mb' : XS} {g : XG} {gs : XGs} {t : XB} {scope : Scope}
theorem dts_nil (hK : G.K = X.K := by rfl) : DTs X G E [] xYes := ⟨hK, PTs.less pts_nil fun σ H Q h => by
  obtain ⟨ρ, env, hs, R, w, q⟩ := h
  exact q ρ H (Ext.refl _ _) w⟩
theorem dts_one (h : DT X G E c t) : DTs X G E [c] t := ⟨h.hK, pts_one h.pt⟩
/-- the items of a comprehension, n being made already -/
def lcL (g : XG) (t : XB) (me : XE) (env : Envd) : List D → Nat → Hs → Res (List D × Hs)
  | [], _, hs => .ok ([], hs)
  | d :: r, n, hs => match g d env with
    | some env1 => andThen (noX (t env1 hs)) fun k hs1 => if k = true then
        andThen (noX (me env1 hs1)) fun y hs2 => match y with
          | .dat d' => if n < sizeLine then andThen (lcL g t me env r (n + 1) hs2) fun ds hs3 => .ok (d' :: ds, hs3) else .stuck
          | _ => .stuck
      else lcL g t me env r n hs1
    | none => .stuck
def xLc (mi : XA) (g : XG) (t : XB) (me : XE) (vs : List Nat) : XE := fun env hs => andThen (mi env hs) fun ds hs1 => andThen (noX (lcL g t me (wipeE env vs) ds 0 hs1)) fun acc hs2 => .ok (.own acc, hs2)
/-- the end that a comprehension comes to, from some items on -/
def LcTo (G : Gx) (H : Hp) (ρ1 : List Addr) (H1 : Hp) (accd : List D) (Q : VK) : Res (List D × Hs) → Prop
  | .ok (rest, hs3) => ∀ ρ3 H3, Ext ρ1 H1 ρ3 H3 → Wd G ρ3 H3 hs3 → ∀ v, RR G H ρ3 H3 v (.own (accd ++ rest)) → Q v H3
  | _ => False
theorem ext_upd {ρ ρ' : List Addr} {H H' : Hp} {a : Addr} {o : HO} (e : Ext ρ H ρ' H') (h0 : H a = none) : Ext ρ H ρ' (upd H' a o) :=
  ⟨fun b u q => by rw [upd_ne (ne_of_none q h0)]; exact e.sm b u q, e.pre, e.new⟩
theorem lc_less {vs : List Nat} {gT : TG} {σ : L2.St} {H : Hp} {Q : VK} (hgT : ∀ v σ0 H Q, (∃ ρ env d env', SR G ρ H (L2.wipe σ0 vs) env ∧ Fz G.K H v d ∧ g d env = some env' ∧ ∀ σ', SR G ρ H σ' env' → L2.wipe σ' vs = L2.wipe σ0 vs → Q σ' H) → gT v (L2.wipe σ0 vs) H Q)
    (h : tD G E (xLc mi g t me vs) σ H Q) : tLc (tI G E mi) gT (tT G EN t) (tD G EN me) vs σ H Q := by
  obtain ⟨ρ, env, hs, R, w, q⟩ := h
  refine ⟨ρ, env, hs, R, w, Out.imp (Out.seq q) fun ds hs1 ρ1 H1 em e1 w1 q1 J wk D hD => ?_⟩
  have R1 := (R.ext e1).wipe vs
  refine ⟨fun i m H2 => m + i = ds.length ∧ ∃ ρ2 hs2 acc accd, Ext ρ1 H1 ρ2 H2 ∧ Wd G ρ2 H2 hs2 ∧ H2 D = some (.lst acc) ∧ D ∉ ρ2 ∧ FzA G.K H2 acc accd ∧ LcTo G H ρ1 H1 accd Q (lcL g t me (wipeE env vs) (ds.drop i) acc.length hs2),
    ⟨ds.length, rfl, ρ1, hs1, [], [], .ofAll (grow_new hD), w1.new hD, upd_same, w1.nin hD, .nil, ?_⟩, ?_⟩
  · rw [List.drop_zero]
    have q2 := Out.seq q1
    cases eo : lcL g t me (wipeE env vs) ds 0 hs1 with
    | stuck => rw [eo] at q2; exact q2.elim
    | exc c d hs' => rw [eo] at q2; exact q2.elim
    | ok p =>
      obtain ⟨rest, hs3⟩ := p
      rw [eo] at q2
      intro ρ3 H3 e3 w3 v rr
      exact q2 ρ3 H3 e3 w3 ρ3 H3 (Ext.refl _ _) w3 v rr
  · rintro i m H2 ⟨hm, ρ2, hs2, acc, accd, e2, w2, hd2, nD, fa, q2⟩
    have s2 : SmF H1 H2 := e2.smF
    cases m with
    | zero =>
      have hl : i = ds.length := by omega
      subst hl
      rw [List.drop_length] at q2
      have q3 := q2 ρ2 H2 e2 w2 (.ref D) ⟨D, acc, rfl, hd2, e1.none hD, nD, by simpa using fa⟩
      exact .inl ⟨wk.stop H2 s2, q3⟩
    | succ m =>
      have hl : i < ds.length := by omega
      rw [List.drop_eq_getElem_cons hl] at q2
      unfold lcL at q2
      refine .inr ⟨wk.go i H2 s2 hl, ?_⟩
      refine ⟨fun H' => m + (i + 1) = ds.length ∧ ∃ ρ2 hs2 acc accd, Ext ρ1 H1 ρ2 H' ∧ Wd G ρ2 H' hs2 ∧ H' D = some (.lst acc) ∧ D ∉ ρ2 ∧ FzA G.K H' acc accd ∧ LcTo G H ρ1 H1 accd Q (lcL g t me (wipeE env vs) (ds.drop (i + 1)) acc.length hs2),
        fun H' h' => ⟨m, Nat.lt_succ_self m, h'⟩, fun x H3 y => ?_⟩
      obtain ⟨gr, fz⟩ := wk.yld i H2 x H3 ds[i] s2 (by simp [hl]) y
      cases eg : g ds[i] (wipeE env vs) with
      | none => rw [eg] at q2; exact q2.elim
      | some env3 =>
        rw [eg] at q2
        dsimp only at q2
        have e3 : Ext ρ1 H1 ρ2 H3 := e2.trans (.ofAll gr)
        have w3 := w2.ofAll gr
        have hd3 : H3 D = some (.lst acc) := gr _ _ hd2
        have fa3 : FzA G.K H3 acc accd := FzA.mono (SmC.ofAll (ρ := []) gr) fa
        refine hgT x σ H3 _ ⟨ρ2, wipeE env vs, ds[i], env3, R1.ext e3, fz, eg, fun σ' R' hw => ⟨hw, ρ2, env3, hs2, R', w3, ?_⟩⟩
        cases et : t env3 hs2 with
        | stuck => rw [et] at q2; exact q2.elim
        | exc c d hs' => rw [et] at q2; exact q2.elim
        | ok p =>
          obtain ⟨k, hs4⟩ := p
          rw [et] at q2
          intro ρ4 H4 e4 w4
          have e14 := e3.trans e4
          have hd4 : H4 D = some (.lst acc) := e4.sm.lst hd3 nD
          have nD4 : D ∉ ρ4 := e4.nin hd3 nD
          have fa4 := FzA.mono e4.sm fa3
          cases k with
          | false =>
            dsimp only
            rw [if_neg Bool.false_ne_true]
            have q3 : LcTo G H ρ1 H1 accd Q (lcL g t me (wipeE env vs) (ds.drop (i + 1)) acc.length hs4) := q2
            exact ⟨by omega, ρ4, hs4, acc, accd, e14, w4, hd4, nD4, fa4, q3⟩
          | true =>
            dsimp only
            rw [if_pos rfl]
            have q3 : LcTo G H ρ1 H1 accd Q (andThen (noX (me env3 hs4)) fun y hs2 => match y with
              | .dat d' => if acc.length < sizeLine then andThen (lcL g t me (wipeE env vs) (ds.drop (i + 1)) (acc.length + 1) hs2) fun ds hs3 => .ok (d' :: ds, hs3) else .stuck
              | _ => .stuck) := q2
            refine ⟨ρ4, env3, hs4, R'.ext e4, w4, ?_⟩
            cases ee : me env3 hs4 with
            | stuck => rw [ee] at q3; exact q3.elim
            | exc c d hs' => rw [ee] at q3; exact q3.elim
            | ok p =>
              obtain ⟨r, hs5⟩ := p
              rw [ee] at q3
              cases r with
              | own _ => exact q3.elim
              | cell _ => exact q3.elim
              | scr _ => exact q3.elim
              | dat d' =>
                have q4 : LcTo G H ρ1 H1 accd Q (if acc.length < sizeLine then andThen (lcL g t me (wipeE env vs) (ds.drop (i + 1)) (acc.length + 1) hs5) fun ds hs3 => .ok (d' :: ds, hs3) else .stuck) := q3
                intro ρ5 H5 e5 w5 v rr
                have hd5 : H5 D = some (.lst acc) := e5.sm.lst hd4 nD4
                have nD5 : D ∉ ρ5 := e5.nin hd4 nD4
                have fa5 := FzA.mono e5.sm fa4
                by_cases hz : acc.length < sizeLine
                · rw [if_pos hz] at q4
                  refine ⟨acc, hd5, hz, by omega, ρ5, hs5, acc ++ [v], accd ++ [d'], ext_upd (e14.trans e5) hD, wd_upd w5 hd5 nD5, upd_same, nD5, (fz_upd hd5).2 (fa5.append (.cons rr .nil)), ?_⟩
                  rw [List.length_append, List.length_singleton]
                  revert q4
                  cases lcL g t me (wipeE env vs) (ds.drop (i + 1)) (acc.length + 1) hs5 with
                  | stuck => exact fun q => q
                  | exc c d hs' => exact fun q => q
                  | ok p =>
                    obtain ⟨rest, hs6⟩ := p
                    intro q5 ρ6 H6 e6 w6 v6 r6
                    refine q5 ρ6 H6 e6 w6 v6 ?_
                    rw [List.append_assoc] at r6
                    exact r6
                · rw [if_neg hz] at q4; exact q4.elim
/-- a target within a comprehension's block -/
structure DGb (X : Cx) (G : Gx) (vs : List Nat) (e : Expr) (g : XG) (gT : TG) : Prop where
  hK : G.K = X.K
  pg : PG X e gT
  run : ∀ v σ0 H Q, (∃ ρ env d env', SR G ρ H (L2.wipe σ0 vs) env ∧ Fz G.K H v d ∧ g d env = some env' ∧ ∀ σ', SR G ρ H σ' env' → L2.wipe σ' vs = L2.wipe σ0 vs → Q σ' H) → gT v (L2.wipe σ0 vs) H Q

theorem wipe_get (σ : L2.St) : ∀ (vs : List Nat) (j : Nat), (L2.wipe σ vs)[j]? = if j ∈ vs ∧ j < σ.length then some none else σ[j]?
  | [], j => by simp [L2.wipe]
  | v :: vs, j => by
    unfold L2.wipe
    have hl := L2.wipe_length σ vs
    by_cases hj : v = j
    · subst hj
      by_cases hv : v < σ.length
      · rw [List.getElem?_set_self (by omega), if_pos ⟨List.mem_cons_self, hv⟩]
      · rw [List.getElem?_eq_none (by simp; omega), if_neg (fun h => hv h.2), List.getElem?_eq_none (by omega)]
    · rw [List.getElem?_set_ne hj, wipe_get σ vs j]
      have : (j ∈ v :: vs ∧ j < σ.length) ↔ (j ∈ vs ∧ j < σ.length) := by
        constructor
        · rintro ⟨h1, h2⟩
          rcases List.mem_cons.mp h1 with h | h
          · exact absurd h.symm hj
          · exact ⟨h, h2⟩
        · rintro ⟨h1, h2⟩; exact ⟨List.mem_cons_of_mem _ h1, h2⟩
      by_cases h : j ∈ vs ∧ j < σ.length
      · rw [if_pos h, if_pos (this.mpr h)]
      · rw [if_neg h, if_neg (fun z => h (this.mp z))]
theorem wipe_set {σ : L2.St} {vs : List Nat} {i : Nat} {x : Option V} (hi : i ∈ vs) : L2.wipe (σ.set i x) vs = L2.wipe σ vs := by
  refine List.ext_getElem? fun j => ?_
  rw [wipe_get, wipe_get, List.length_set]
  by_cases h : j ∈ vs ∧ j < σ.length
  · rw [if_pos h, if_pos h]
  · rw [if_neg h, if_neg h]
    by_cases hj : i = j
    · subst hj
      have : ¬ i < σ.length := fun z => h ⟨hi, z⟩
      rw [List.getElem?_eq_none (by simp; omega), List.getElem?_eq_none (by omega)]
    · rw [List.getElem?_set_ne hj]
theorem wipe_wipe {σ : L2.St} {vs : List Nat} : L2.wipe (L2.wipe σ vs) vs = L2.wipe σ vs := by
  refine List.ext_getElem? fun j => ?_
  rw [wipe_get, L2.wipe_length, wipe_get]
  by_cases h : j ∈ vs ∧ j < σ.length
  · rw [if_pos h, if_pos h]
  · rw [if_neg h]
theorem dgb_name (i : Nat) {vs : List Nat} (hN : X.N.Nodup) (hi : X.N[i]? = some x := by rfl) (hx : Loc X.env.scope x := by first | exact Or.inl rfl | exact Or.inr rfl) (hv : i ∈ vs := by simp) (hK : G.K = X.K := by rfl)
    (hf : X.fn x = true ∨ X.env.scope.names.lookup x = some .local := by first | exact .inl rfl | exact .inr rfl | assumption) : DGb X G vs (.Name x pos) (gNm i) (gName i) :=
  ⟨hK, pg_name hN hi hx hf, fun v σ0 H Q ⟨ρ, env, d, env', R, f, eg, q⟩ => by
    cases eg
    exact q _ (R.set f).1 (by rw [wipe_set hv, wipe_wipe])⟩
/-- a, b in a comprehension -/
def gNm2 (i j : Nat) : XG := fun d env => match d with
  | .tuple [d1, d2] => some ((env.set i (some (.dat d1))).set j (some (.dat d2)))
  | _ => none
theorem dgb_tup2 (i j : Nat) {vs : List Nat} {y : Str} {p1 p2 : Pos} {k : Nat} (hc : X.calm = true) (hN : X.N.Nodup) (hi : X.N[i]? = some x := by rfl) (hj : X.N[j]? = some y := by rfl) (hx : Loc X.env.scope x := by first | exact Or.inl rfl | exact Or.inr rfl) (hy : Loc X.env.scope y := by first | exact Or.inl rfl | exact Or.inr rfl)
    (hv : i ∈ vs := by simp) (hw : j ∈ vs := by simp) (hK : G.K = X.K := by rfl)
    (hf : X.fn x = true ∨ X.env.scope.names.lookup x = some .local := by first | exact .inl rfl | exact .inr rfl | assumption) (hf2 : X.fn y = true ∨ X.env.scope.names.lookup y = some .local := by first | exact .inl rfl | exact .inr rfl | assumption)
    (h1 : (assignEach [.Name x p1, .Name y p2] X.env).map (·.2) = assign (.Name x p1) X.env :: (assignEach [.Name y p2] X.env).map (·.2) := by rfl) (h2 : (assignEach [.Name y p2] X.env).map (·.2) = assign (.Name y p2) X.env :: (assignEach [] X.env).map (·.2) := by rfl)
    (hn : (assignEach [.Name x p1, .Name y p2] X.env).length = 2 := by rfl) (hst : (assignEach [.Name x p1, .Name y p2] X.env).findIdx? (·.1) = none := by rfl) :
    DGb X G vs (.Tuple [.Name x p1, .Name y p2] k pos) (gNm2 i j) (gTup X.K 2 (gCons (gName i) (gCons (gName j) gNil))) :=
  ⟨hK, pg_tup hc (pgs_cons (pg_name hN hi hx hf) (pgs_cons (pg_name hN hj hy hf2) pgs_nil h2) h1) hn hst, fun v σ0 H Q ⟨ρ, env, d, env', R, f, eg, q⟩ => by
    unfold gNm2 at eg
    split at eg
    · rename_i d1 d2
      cases eg
      cases f with
      | tup f1 f2 =>
        cases f2 with
        | cons r1 t =>
          cases t with
          | cons r2 t2 =>
            cases t2
            refine ⟨_, _, rfl, by rw [← hK]; exact f1, rfl, _, _, rfl, _, _, rfl, rfl, ?_⟩
            exact q _ ((R.set r1).1.set r2).1 (by rw [wipe_set hw, wipe_set hv, wipe_wipe])
    · cases eg⟩

/-! ### [e for .. in .. if ..] -/
/-- the context of a comprehension's block -/
abbrev blkX (X : Cx) (scope : Scope) (s : Shared) (H : Hp) (C : Addr) (cl : List (Str × Addr)) (fp : List Addr) : Cx := X.blk s H scope (compEnvC scope cl C X.env) fp
theorem de_lc {own : List (Str × Nat)} {gT : TG} (C : CxD X) (hi : DI X G E tg iter mi) (ok : BlkOk X.N X.env.scope scope own) (hg : ∀ s H C cl fp, DGb (blkX X scope s H C cl fp) G (own.map (·.2)) tg g gT)
    (ht : ∀ s H C cl fp, DTs (blkX X scope s H C cl fp) G EN ifs t) (he : ∀ s H C cl fp, DE (blkX X scope s H C cl fp) G EN elt me) (hs : ∀ x, foldedSetIterable iter X.env x = pure x := by intro _; rfl) :
    DE X G E (.ListComp elt [⟨tg, iter, ifs, 0⟩] scope pos) (xLc mi g t me (own.map (·.2))) := by
  refine ⟨hi.hK, ⟨fun pins s σ H Q I h => ?_⟩⟩
  have hg0 := hg s H 0 [] []
  exact (pe_lc C.calm C.nd hi.pi ok (fun s H C cl fp => (hg s H C cl fp).pg) (fun s H C cl fp => (ht s H C cl fp).pt) (fun s H C cl fp => (he s H C cl fp).pe) hs).run pins s σ H Q I (lc_less hg0.run h)
/-- x = [..] -/
theorem ds_setLc (i : Nat) {own : List (Str × Nat)} {gT : TG} {q : Pos} (C : CxD X) (hi : DI X G E tg iter mi) (ok : BlkOk X.N X.env.scope scope own) (hg : ∀ s H C cl fp, DGb (blkX X scope s H C cl fp) G (own.map (·.2)) tg g gT)
    (ht : ∀ s H C cl fp, DTs (blkX X scope s H C cl fp) G EN ifs t) (he : ∀ s H C cl fp, DE (blkX X scope s H C cl fp) G EN elt me) (hy : X.N[i]? = some x := by rfl) (hyl : X.env.scope.names.lookup x = some .local := by rfl)
    (hsw : swapsWith (.ListComp elt [⟨tg, iter, ifs, 0⟩] scope p) (some (.Name x q)) pos.line X.env = pure true := by exact sw_true rfl rfl rfl (by decide +kernel)) (hs : ∀ x, foldedSetIterable iter X.env x = pure x := by intro _; rfl) :
    DS X G E ρ₀ H₀ B (.Assign [.Name x q] (.ListComp elt [⟨tg, iter, ifs, 0⟩] scope p) pos) (xSet i (xLc mi g t me (own.map (·.2)))) := by
  refine ⟨hi.hK, ⟨fun pins s σ H D I h => ?_⟩⟩
  have hg0 := hg s H 0 [] []
  refine (ps_setLc C.calm C.nd hy hyl hsw hi.pi ok (fun s H C cl fp => (hg s H C cl fp).pg) (fun s H C cl fp => (ht s H C cl fp).pt) (fun s H C cl fp => (he s H C cl fp).pe) hs).run pins s σ H D I ?_
  obtain ⟨ρ, env, hs', R, w, q⟩ := h
  exact lc_less hg0.run (tD_s R w q fun r ρ1 hs1 H1 e1 w1 q1 v rr => q1 ρ1 _ H1 (R.set e1 rr) w1)
end
end DL
set_option Elab.async false
set_option linter.all false
set_option maxRecDepth 100000
set_option maxHeartbeats 4000000
/-! DV: defs of the text, called; slots locked; the script; lists changed. -/
namespace DL
open PySem PySem.Spec PyProof.Rows L2 LamX TL

/-! ### arguments of a def -/
def ArgR (G : Gx) (ρ : List Addr) (H : Hp) (v : V) : SV → Prop
  | .dat d => Fz G.K H v d
  | .own _ => False
  | .cell k => ∃ a, v = .ref a ∧ ρ[k]? = some a
  | .scr ns => ∃ a, v = .ref a ∧ ScrL G.K H a ns
inductive ArgA (G : Gx) (ρ : List Addr) (H : Hp) : List V → List SV → Prop
  | nil : ArgA G ρ H [] []
  | cons {v : V} {vs : List V} {r : SV} {rs : List SV} : ArgR G ρ H v r → ArgA G ρ H vs rs → ArgA G ρ H (v :: vs) (r :: rs)
theorem ArgR.ext {G : Gx} {ρ ρ' : List Addr} {H H' : Hp} (e : Ext ρ H ρ' H') {v : V} {r : SV} (h : ArgR G ρ H v r) : ArgR G ρ' H' v r := by
  cases r with
  | dat d => exact Fz.mono e.sm h
  | own d => exact h
  | cell k => obtain ⟨a, h1, h2⟩ := h; exact ⟨a, h1, pre_get e.pre h2⟩
  | scr ns => obtain ⟨a, h1, h2⟩ := h; exact ⟨a, h1, h2.mono e.sm⟩
theorem ArgA.ext {G : Gx} {ρ ρ' : List Addr} {H H' : Hp} (e : Ext ρ H ρ' H') : ∀ {vs : List V} {rs : List SV}, ArgA G ρ H vs rs → ArgA G ρ' H' vs rs
  | _, _, .nil => .nil
  | _, _, .cons r t => .cons (r.ext e) (ArgA.ext e t)
theorem ArgA.length {G : Gx} {ρ : List Addr} {H : Hp} : ∀ {vs : List V} {rs : List SV}, ArgA G ρ H vs rs → vs.length = rs.length
  | _, _, .nil => rfl
  | _, _, .cons _ t => by simp [ArgA.length t]
theorem ArgA.get {G : Gx} {ρ : List Addr} {H : Hp} : ∀ {vs : List V} {rs : List SV} {i : Nat} {r : SV}, ArgA G ρ H vs rs → rs[i]? = some r → ∃ v, vs[i]? = some v ∧ ArgR G ρ H v r
  | _, _, _, _, .nil, e => by simp at e
  | _, _, 0, _, .cons q _, e => by simp at e; subst e; exact ⟨_, rfl, q⟩
  | _, _, i + 1, r, .cons _ t, e => by
    obtain ⟨v, h1, h2⟩ := ArgA.get (i := i) (r := r) t (by simpa using e)
    exact ⟨v, by simpa using h1, h2⟩
abbrev XF := List SV → Hs → Res (SV × Hs)
/-- what a def promises: m of its arguments and the cells -/
def spM (G : Gx) (n : Nat) (m : XF) : Sp := fun vs H Q E => vs.length = n ∧ ∃ ρ hs rs, ArgA G ρ H vs rs ∧ Wd G ρ H hs ∧ Out G E ρ H (m rs hs) fun r ρ' _ H' => ∀ v, RR G H ρ' H' v r → Q v H'
abbrev FnM (P : Program) (w : World) (mg : Str → Option Value) (base : Heap) (G : Gx) (L : Nat) (f : Addr) (fd : FuncData) (ps : List Str) (m : XF) : Prop := FnOk P w G.K mg base (L2.CX P w) L f fd ps (spM G ps.length m)

/-! ### a def's body -/
def startE (n : Nat) (rs : List SV) : Envd := rs.map some ++ List.replicate (n - rs.length) none
def fnX (n : Nat) (mb : XS) : XF := fun rs hs => match mb (startE n rs) hs with
  | .ok (.rt r, _, hs') => .ok (r, hs')
  | .ok (.nx, _, hs') => .ok (.dat .none, hs')
  | .exc c d hs' => .exc c d hs'
  | _ => .stuck
theorem start_get {N : List Str} {vs : List V} {i : Nat} (h : i < vs.length) : (L2.start N vs)[i]? = (vs[i]?).map some := by
  unfold L2.start
  rw [List.getElem?_append_left (by simpa using h), List.getElem?_map]
theorem startE_get {n : Nat} {rs : List SV} {i : Nat} : (startE n rs)[i]?.join = rs[i]? := by
  unfold startE
  by_cases h : i < rs.length
  · rw [List.getElem?_append_left (by simpa using h), List.getElem?_map]
    cases rs[i]? <;> rfl
  · rw [List.getElem?_append_right (by simpa using h), List.getElem?_eq_none (l := rs) (by omega), List.getElem?_replicate]
    split <;> rfl
theorem SR.start {G : Gx} {ρ : List Addr} {H : Hp} {N : List Str} {vs : List V} {rs : List SV} (h : ArgA G ρ H vs rs) : SR G ρ H (L2.start N vs) (startE N.length rs) := by
  have hl := h.length
  have noown : ∀ (i : Nat) (ds : List D), (startE N.length rs)[i]? = some (some (.own ds)) → False := fun i ds e => by
    have e2 : rs[i]? = some (.own ds) := by rw [← startE_get (n := N.length), e]; rfl
    obtain ⟨v, _, q⟩ := h.get e2
    exact q
  refine ⟨by simp [startE, L2.start, hl], fun i => ?_, fun i j ds es v _ h1 _ _ _ => noown i ds h1⟩
  rw [startE_get]
  cases e : rs[i]? with
  | none => cases ((L2.start N vs)[i]?).join <;> trivial
  | some r =>
    obtain ⟨v, h1, h2⟩ := h.get e
    have hi : i < vs.length := (List.getElem?_eq_some_iff.mp h1).1
    rw [start_get hi, h1]
    show SlotR G ρ H (some v) (some r)
    cases r with
    | dat d => exact h2
    | own d => exact h2.elim
    | cell k => exact h2
    | scr ns => exact h2
section
variable {P : Program} {w : World} {mg : Str → Option Value} {base : Heap} {G : Gx}
/-- THE RULE for a def: its body's reading -/
theorem fnM_ok {x qual : Str} {st : Stmt} {f : Addr} {fd : FuncData} {N ps : List Str} {k : Nat} {mb : XS} (F : Fun G.K x qual st f fd) (S : FnScope N ps (defScope st))
    (hbody : ∀ (cdv : Value) (A : Around) (outer : List Env) (s : Shared) (H : Hp) (E : XK) (ρ₀ : List Addr) (B : Hp), Room k (A.deeper (envOfC qual (defScope st) s.heap.objs.size f cdv)) →
      CxD (cxOf (L2.CX P w) P w G.K mg base N qual (defScope st) f cdv A outer s H E) → Passes (L2.CX P w) (cxOf (L2.CX P w) P w G.K mg base N qual (defScope st) f cdv A outer s H E) E →
      DSs (cxOf (L2.CX P w) P w G.K mg base N qual (defScope st) f cdv A outer s H E) G E ρ₀ H B (defBody st) mb) : FnM P w mg base G (k + 1) f fd ps (fnX N.length mb) := by
  refine Fun.okX F S (fun vs H Q E h => h.1) fun cdv A outer s H vs Q E hr h => ?_
  obtain ⟨hl, ρ, hs, rs, ha, wd, q⟩ := h
  have hC : CxD (cxOf (L2.CX P w) P w G.K mg base N qual (defScope st) f cdv A outer s H E) := ⟨S.nd, rfl, PassesOwn.leaving⟩
  have hP : Passes (L2.CX P w) (cxOf (L2.CX P w) P w G.K mg base N qual (defScope st) f cdv A outer s H E) E := passes_call (takes_of rfl rfl rfl rfl) fun _ _ _ _ h => h
  refine ⟨_, (hbody cdv A outer s H E ρ H hr hC hP).ps, ρ, startE N.length rs, hs, ⟨SR.start ha, Ext.refl _ _, fun i ds a h1 _ => ?_, SmF.refl _⟩, wd, ?_⟩
  · exfalso
    have e2 : rs[i]? = some (.own ds) := by rw [← startE_get (n := N.length), h1]; rfl
    obtain ⟨v, _, q⟩ := ha.get e2
    exact q
  · unfold fnX at q
    cases em : mb (startE N.length rs) hs with
    | stuck => rw [em] at q; exact q.elim
    | exc c d hs' => rw [em] at q; exact q
    | ok r =>
      obtain ⟨fl, env', hs'⟩ := r
      rw [em] at q
      cases fl with
      | nx => exact fun ρ' σ' H' R' w' => q ρ' H' R'.ext w' .non .non
      | bk => exact q.elim
      | ct => exact q.elim
      | rt r => exact fun ρ' v H' e' w' rr => q ρ' H' e' w' v rr
end

/-! ### calls -/
abbrev XAs := Envd → Hs → Res (List SV × Hs)
def tAs (G : Gx) (E : XK) (m : XAs) : TA := fun σ H Q => ∃ ρ env hs, SR G ρ H σ env ∧ Wd G ρ H hs ∧ Out G E ρ H (m env hs) fun rs ρ' _ H' => ∀ vs, ArgA G ρ' H' vs rs → Q vs H'
structure DAs (X : Cx) (G : Gx) (E : XK) (es : List Expr) (m : XAs) : Prop where
  hK : G.K = X.K
  pa : PA X es (tAs G E m)
def xNilS : XAs := fun _ hs => .ok ([], hs)
def asA (r : SV) : Option SV := match r with
  | .own _ => none
  | r => some r
def xConsS (m : XE) (r : XAs) : XAs := fun env hs => andThen (m env hs) fun d hs1 => andThen (liftO (asA d) hs1) fun d hs1 => andThen (r env hs1) fun ds hs2 => .ok (d :: ds, hs2)
section
variable {X : Cx} {G : Gx} {E : XK} {ρ₀ : List Addr} {H₀ B : Hp} {a b c e : Expr} {es : List Expr} {pos p : Pos} {ma mb mc : XD} {m : XE} {mA : XAs} {x : Str} {st : Stmt} {sts : List Stmt} {m1 m2 mb' : XS}
theorem das_nil (hK : G.K = X.K := by rfl) : DAs X G E [] xNilS := ⟨hK, PA.less pa_nil fun σ H Q h => by
  obtain ⟨ρ, env, hs, R, w, q⟩ := h
  exact q ρ H (Ext.refl _ _) w [] .nil⟩
theorem tAs_seq {σ : L2.St} {H : Hp} {ρ : List Addr} {env : Envd} {hs : Hs} {β : Type} {f : List SV → Hs → Res (β × Hs)} {Qf : β → List Addr → Hs → Hp → Prop} {Q : List V → Hp → Prop} (R : SR G ρ H σ env) (w : Wd G ρ H hs)
    (h : Out G E ρ H (andThen (mA env hs) f) Qf) (k : ∀ ds ρ1 hs1 H1, Ext ρ H ρ1 H1 → Wd G ρ1 H1 hs1 → Out G E ρ1 H1 (f ds hs1) Qf → ∀ vs, ArgA G ρ1 H1 vs ds → Q vs H1) : tAs G E mA σ H Q := by
  refine ⟨ρ, env, hs, R, w, Out.imp h.seq fun d hs1 ρ1 H1 em e1 w1 q v br => ?_⟩
  exact k d ρ1 hs1 H1 e1 w1 q v br
theorem das_cons (h : DE X G E e m) (hr : DAs X G E es mA) (hs : starEach (e :: es) X.env = (false, eval e X.env) :: starEach es X.env := by rfl) : DAs X G E (e :: es) (xConsS m mA) := by
  refine ⟨h.hK, PA.less (pa_cons h.pe hr.pa hs) fun σ H Q q => ?_⟩
  obtain ⟨ρ, env, hs, R, w, q⟩ := q
  refine tD_seq R w q fun r ρ1 hs1 H1 e1 w1 q1 v rr => ?_
  obtain ⟨d, hd, q2⟩ := out_lift q1.seq
  have ar : ArgR G ρ1 H1 v d := by
    unfold asA at hd
    split at hd
    · cases hd
    · rename_i hno
      cases hd
      cases r with
      | dat d => exact rr
      | own d => exact absurd rfl (hno d)
      | cell k => exact rr
      | scr k => exact rr
  refine tAs_seq (R.ext e1) w1 (q2 ρ1 H1 (Ext.refl _ _) w1) fun ds ρ2 hs2 H2 e2 w2 q3 vs fs => ?_
  exact q3 ρ2 H2 (Ext.refl _ _) w2 (v :: vs) (.cons (ar.ext e2) fs)
def xFn (mf : XF) (dvs : List SV) (mA : XAs) : XE := fun env hs => andThen (mA env hs) fun rs hs1 => mf (rs ++ dvs) hs1
theorem ArgA.append {ρ : List Addr} {H : Hp} : ∀ {vs ws : List V} {rs qs : List SV}, ArgA G ρ H vs rs → ArgA G ρ H ws qs → ArgA G ρ H (vs ++ ws) (rs ++ qs)
  | _, _, _, _, .nil, s => s
  | _, _, _, _, .cons r t, s => .cons r (ArgA.append t s)
theorem fn_less {n : Nat} {mf : XF} {σ : L2.St} {H : Hp} {Q : VK} {dvs : List V} {drs : List SV} (hd : ∀ ρ H, ArgA G ρ H dvs drs) (hn : ∀ env hs rs hs', mA env hs = .ok (rs, hs') → rs.length + drs.length = n) (h : tD G E (xFn mf drs mA) σ H Q) : tAs G E mA σ H fun vs H1 => spM G n mf (vs ++ dvs) H1 Q E := by
  obtain ⟨ρ, env, hs, R, w, q⟩ := h
  refine ⟨ρ, env, hs, R, w, Out.imp (Out.seq q) fun rs hs1 ρ1 H1 em e1 w1 q1 vs br => ?_⟩
  refine ⟨by rw [List.length_append, br.length, (hd ρ1 H1).length]; exact hn env hs rs hs1 em, ρ1, hs1, rs ++ drs, br.append (hd ρ1 H1), w1, Out.imp q1 fun r hs2 ρ2 H2 em e2 w2 q2 v rr => q2 v (rr_ext0 e1 rr)⟩
/-- how many arguments are written -/
def Len (mA : XAs) (n : Nat) : Prop := ∀ env hs rs hs', mA env hs = .ok (rs, hs') → rs.length = n
theorem len_nil : Len xNilS 0 := fun env hs rs hs' h => by cases h; rfl
theorem len_cons {n : Nat} (h : Len mA n) : Len (xConsS m mA) (n + 1) := fun env hs rs hs' e => by
  unfold xConsS at e
  cases e1 : m env hs with
  | stuck => rw [e1] at e; cases e
  | exc c d h' => rw [e1] at e; cases e
  | ok p =>
    rw [e1] at e
    obtain ⟨r, hs1⟩ := p
    simp only [andThen] at e
    cases e2 : asA r with
    | none => rw [e2] at e; cases e
    | some r' =>
      rw [e2] at e
      simp only [liftO] at e
      cases e3 : mA env hs1 with
      | stuck => rw [e3] at e; cases e
      | exc c d h' => rw [e3] at e; cases e
      | ok q =>
        rw [e3] at e
        obtain ⟨rs2, hs2⟩ := q
        cases e
        simp [h _ _ _ _ e3]
/-- f(e, ..) -/
theorem de_call {k n : Nat} {f : Addr} {fd : FuncData} {ps : List Str} {mf : XF} {ds : List Value} {dvs : List V} {drs : List SV} (F : FnOk X.prog X.w X.K X.mg X.base (L2.CX X.prog X.w) k f fd ps (spM G ps.length mf)) (hr : Room k X.A) (hg : Gl X x) (hm : X.mg x = some (.ref f))
    (hk : PySem.W.keepIn X.K (.ref f) = true) (hb : L2.Binds X.K fd ps ds) (hd : Vals dvs ds) (hdr : ∀ ρ H, ArgA G ρ H dvs drs) (hx : Passes (L2.CX X.prog X.w) X E) (ha : DAs X G E (e :: es) mA) (hl : Len mA n) (hn : n + drs.length = ps.length := by rfl) (hdb : (x == ("__debug__" : Str)) = false := by decide)
    (he : starEach (e :: es) X.env = (false, eval e X.env) :: starEach es X.env := by rfl) (hpl : (backTo pos (starEach es X.env)).any (·.1) = false := by rfl) : DE X G E (.Call (.Name x p) (e :: es) [] pos) (xFn mf drs mA) :=
  ⟨ha.hK, PE.less (pe_call F hr hg hm hk hb hd hx ha.pa hdb he hpl) fun σ H Q h => fn_less hdr (fun env hs rs hs' em => by rw [hl env hs rs hs' em]; exact hn) h⟩
theorem de_call0 {k : Nat} {f : Addr} {fd : FuncData} {ps : List Str} {mf : XF} (F : FnOk X.prog X.w X.K X.mg X.base (L2.CX X.prog X.w) k f fd ps (spM G ps.length mf)) (hr : Room k X.A) (hg : Gl X x) (hm : X.mg x = some (.ref f))
    (hk : PySem.W.keepIn X.K (.ref f) = true) (hb : L2.Binds X.K fd ps []) (hx : Passes (L2.CX X.prog X.w) X E) (hn : ps.length = 0 := by rfl) (hK : G.K = X.K := by rfl) (hdb : (x == ("__debug__" : Str)) = false := by decide) : DE X G E (.Call (.Name x p) [] [] pos) (xFn mf [] xNilS) :=
  ⟨hK, PE.less (pe_call0 F hr hg hm hk hb .nil hx hdb) fun σ H Q h => by
    obtain ⟨ρ, env, hs, R, w, q⟩ := h
    exact ⟨by simpa using hn.symm, ρ, hs, [], .nil, w, q⟩⟩
theorem passN : Passes (L2.CX X.prog X.w) X EN := passL
end
end DL
set_option Elab.async false
set_option linter.all false
set_option maxRecDepth 100000
set_option maxHeartbeats 4000000
/-! DW: slots locked, cells made and stored, lists changed, the script, isinstance. -/
namespace DL
open PySem PySem.Spec PyProof.Rows L2 LamX TL

section
variable {X : Cx} {G : Gx} {E : XK} {ρ₀ : List Addr} {H₀ B : Hp} {a b c e : Expr} {es : List Expr} {pos p : Pos} {ma mb mc : XD} {m : XE} {mA : XA} {x : Str} {st : Stmt} {sts : List Stmt} {m1 m2 mb' : XS}

/-! ### an owned list has other items now -/
theorem SRs.own {ρ : List Addr} {H : Hp} {σ : L2.St} {env : Envd} {i : Nat} {ds : List D} {a : Addr} {vs : List V} {o : HO} {r : SV} (R : SRs G ρ₀ H₀ B ρ H σ env) (he : env[i]? = some (some (.own ds))) (hσ : σ[i]? = some (some (.ref a))) (hH : H a = some (.lst vs)) (hn : a ∉ ρ)
    (hnew : (∀ {v : V} {d : D}, Fz G.K H v d → Fz G.K (upd H a o) v d) → SlotR G ρ (upd H a o) (some (.ref a)) (some r)) (hr : ∀ es, r = .own es → ∃ ws, o = .lst ws) : SRs G ρ₀ H₀ B ρ (upd H a o) σ (env.set i (some r)) := by
  have hi : i < env.length := (List.getElem?_eq_some_iff.mp he).1
  have h0 := R.mine i ds a he hσ
  have f1 : ∀ {v : V} {d : D}, Fz G.K H v d → Fz G.K (upd H a o) v d := fun q => (fz_upd hH).1 q
  have f2 : ∀ {ws : List V} {ds : List D}, FzA G.K H ws ds → FzA G.K (upd H a o) ws ds := fun q => (fz_upd hH).2 q
  have kp : ∀ (j : Nat) (es : List D), (env.set i (some r))[j]? = some (some (.own es)) → ∃ es', env[j]? = some (some (.own es')) := fun j es e => by
    by_cases hj : j = i
    · subst hj; exact ⟨ds, he⟩
    · rw [List.getElem?_set_ne (Ne.symm hj)] at e; exact ⟨es, e⟩
  refine ⟨⟨by simp [R.sr.len], fun j => ?_, fun j k es es' v hjk h1 h2 h3 h4 => ?_⟩, ext_upd R.ext h0, fun j es b h1 h2 => ?_, ⟨fun b ob u q => ?_, fun b ws q => ?_⟩⟩
  · by_cases hj : j = i
    · subst hj
      rw [hσ, List.getElem?_set_self hi]
      exact hnew f1
    · rw [List.getElem?_set_ne (Ne.symm hj)]
      have q := R.sr.at_ j
      cases e1 : env[j]?.join with
      | none => cases (σ[j]?.join) <;> trivial
      | some r' =>
        rw [e1] at q
        cases e2 : σ[j]?.join with
        | none => rw [e2] at q; cases r' <;> exact q.elim
        | some v =>
          rw [e2] at q
          cases r' with
          | dat d => exact f1 q
          | own es =>
            obtain ⟨b, ws, rfl, q1, q2, q3⟩ := q
            have hb : b ≠ a := fun z => by
              subst z
              exact R.sr.apart j i es ds (.ref b) hj (join_some e1) he (join_some e2) hσ
            exact ⟨b, ws, rfl, by rw [upd_ne hb]; exact q1, q2, f2 q3⟩
          | cell k => exact q
          | scr ns =>
            obtain ⟨b, rfl, q⟩ := q
            refine ⟨b, rfl, q.elim (fun ⟨ob, z⟩ => .inl ⟨ob, ?_⟩) .inr⟩
            rw [upd_ne (fun y => by rw [y, hH] at z; cases z)]; exact z
  · obtain ⟨d1, g1⟩ := kp j es h1
    obtain ⟨d2, g2⟩ := kp k es' h2
    exact R.sr.apart j k d1 d2 v hjk g1 g2 h3 h4
  · obtain ⟨d1, g1⟩ := kp j es h1
    exact R.mine j d1 b g1 h2
  · have z := R.loc.frz _ _ _ q
    rw [upd_ne (fun y => by rw [y, hH] at z; cases z)]; exact z
  · have z := R.loc.tup _ _ q
    rw [upd_ne (fun y => by rw [y, hH] at z; cases z)]; exact z
/-- a slot that owns its list: the list is locked from now on -/
def envF (env : Envd) (i : Nat) : Envd := match env[i]?.join with
  | some (.own ds) => env.set i (some (.dat (.list ds)))
  | _ => env
def xFrz (i : Nat) (m : XS) : XS := fun env hs => m (envF env i) hs
theorem ds_frz (i : Nat) (h : DS X G E ρ₀ H₀ B st m1) : DS X G E ρ₀ H₀ B st (xFrz i m1) := by
  refine ⟨h.hK, ⟨fun pins s σ H D I hq => ?_⟩⟩
  obtain ⟨ρ, env, hs, R, w, q⟩ := hq
  unfold xFrz envF at q
  split at q
  · rename_i ds hd
    obtain ⟨v, e1, a, vs, rfl, h1, h2, h3⟩ := slot_get R.sr hd
    obtain ⟨o, I2⟩ := inv_frz I h1
    exact h.ps.run pins s σ _ D I2 ⟨ρ, _, hs, R.own (r := .dat (.list ds)) (join_some hd) e1 h1 h2 (fun f => (Fz.lst upd_same ((fz_upd h1).2 h3) : Fz G.K _ (.ref a) (.list ds))) (fun _ z => nomatch z), wd_upd w h1 h2, q⟩
  · exact h.ps.run pins s σ H D I ⟨ρ, env, hs, R, w, q⟩

/-! ### a list handed back as a cell -/
def xRetCell (mA : XA) : XS := fun env hs => bindE (mA env hs) fun ds hs1 => if ds.length ≤ sizeLine then .ok (.rt (.cell hs1.length), env, hs1 ++ [ds]) else .stuck
theorem tA_s {σ : L2.St} {H : Hp} {ρ : List Addr} {env : Envd} {hs : Hs} {f : List D → Hs → Res (Fl × Envd × Hs)} {Dn : Ends} {Q : List V → Hp → Prop} (R : SRs G ρ₀ H₀ B ρ H σ env) (w : Wd G ρ H hs)
    (h : OutS G E ρ₀ H₀ B (bindE (mA env hs) f) Dn) (k : ∀ r ρ1 hs1 H1, Ext ρ H ρ1 H1 → Wd G ρ1 H1 hs1 → OutS G E ρ₀ H₀ B (f r hs1) Dn → ∀ v, FzA G.K H1 v r → Q v H1) : tA G E mA σ H Q :=
  ⟨ρ, env, hs, R.sr, w, Out.imp (outS_seq R.ext h) fun r hs1 ρ1 H1 em e1 w1 q v rr => k r ρ1 hs1 H1 e1 w1 q v rr⟩
theorem wd_cell {ρ : List Addr} {H : Hp} {hs : Hs} {q : Addr} {vs : List V} {ds : List D} (w : Wd G ρ H hs) (hp : H q = none) (f : FzA G.K H vs ds) : Wd G (ρ ++ [q]) (upd H q (.lst vs)) (hs ++ [ds]) := by
  have w1 : Wd G ρ (upd H q (.lst vs)) hs := w.new hp
  refine ⟨by simp [w.len], ?_, fun k a es e1 e2 => ?_, w1.tabs⟩
  · rw [List.nodup_append]
    exact ⟨w.nd, by simp, fun a ha b hb => by simp at hb; subst hb; rintro rfl; exact w.nin hp ha⟩
  · by_cases hk : k < ρ.length
    · rw [List.getElem?_append_left hk] at e1
      rw [List.getElem?_append_left (by rw [← w.len]; exact hk)] at e2
      exact w1.at_ k a es e1 e2
    · rw [List.getElem?_append_right (by omega)] at e1
      rw [List.getElem?_append_right (by rw [← w.len]; omega)] at e2
      have hk0 : k - ρ.length = 0 := by
        have := (List.getElem?_eq_some_iff.mp e1).1
        simp at this; omega
      rw [hk0] at e1
      rw [show k - hs.length = 0 by rw [← w.len]; exact hk0] at e2
      simp at e1 e2
      subst e1; subst e2
      exact ⟨vs, upd_same, fzA_new hp f⟩
theorem ext_cell {ρ : List Addr} {H : Hp} {q : Addr} {o : HO} (hp : H q = none) : Ext ρ H (ρ ++ [q]) (upd H q o) :=
  ⟨SmC.ofAll (grow_new hp), List.prefix_append _ _, fun a m n => by
    rcases List.mem_append.mp m with h | h
    · exact absurd h n
    · simp at h; subst h; exact hp⟩
theorem ds_retCell {lp : Pos} (h : DAr X G E es mA) : DS X G E ρ₀ H₀ B (.Return (some (.List es lp)) pos) (xRetCell mA) := by
  refine ⟨h.hK, PS.less (ps_ret (pe_lst h.pa)) fun D σ H q => ?_⟩
  obtain ⟨ρ, env, hs, R, w, q⟩ := q
  refine tA_s R w q fun ds ρ1 hs1 H1 e1 w1 q1 vs f => ?_
  by_cases hz : ds.length ≤ sizeLine
  · rw [if_pos hz] at q1
    refine ⟨by rw [f.length]; exact hz, fun q hp => q1 (ρ1 ++ [q]) _ _ ((R.ext.trans e1).trans (ext_cell hp)) (wd_cell w1 hp f) ⟨q, rfl, ?_⟩⟩
    rw [← w1.len]
    simp
  · rw [if_neg hz] at q1; exact q1.elim
/-! ### a cell's item stored -/
def xCellSet (i : Nat) (mb : XD) (m : XE) : XS := fun env hs => bindE (m env hs) fun r hs1 => match env[i]?.join, r with
  | some (.cell k), .dat d => bindE (mb env hs1) fun e hs2 => match e, hs2[k]? with
    | .int j, some ds => match ixN ds.length j with
      | some n => .ok (.nx, env, hs2.set k (ds.set n d))
      | none => .stuck
    | _, _ => .stuck
  | _, _ => .stuck
theorem wd_set {ρ : List Addr} {H : Hp} {hs : Hs} {k : Nat} {q : Addr} {vs : List V} {ds : List D} (w : Wd G ρ H hs) (hk : ρ[k]? = some q) (f : FzA G.K H vs ds) : Wd G ρ (upd H q (.lst vs)) (hs.set k ds) ∧ Ext ρ H ρ (upd H q (.lst vs)) := by
  have hk1 : k < ρ.length := (List.getElem?_eq_some_iff.mp hk).1
  have hk2 : k < hs.length := by rw [← w.len]; exact hk1
  obtain ⟨ws, h1, h2⟩ := w.at_ k q hs[k] hk (by simp [hk2])
  have hm : q ∈ ρ := List.mem_of_getElem? hk
  have sm : SmC ρ H (upd H q (.lst vs)) := fun b u e => by
    by_cases hb : b = q
    · subst hb; rw [h1] at e; cases e; exact .inr (.inl ⟨hm, ws, vs, rfl, upd_same⟩)
    · exact .inl (by rw [upd_ne hb]; exact e)
  refine ⟨⟨by simp [w.len], w.nd, fun j b es e1 e2 => ?_, ?_⟩, ⟨sm, List.prefix_refl _, fun a m n => absurd m n⟩⟩
  · by_cases hj : j = k
    · subst hj
      rw [List.getElem?_set_self hk2] at e2
      cases e2
      rw [hk] at e1; cases e1
      exact ⟨vs, upd_same, FzA.mono sm f⟩
    · rw [List.getElem?_set_ne (Ne.symm hj)] at e2
      obtain ⟨us, g1, g2⟩ := w.at_ j b es e1 e2
      have hb : b ≠ q := fun z => by
        subst z
        have i1 := (List.getElem?_eq_some_iff.mp e1)
        have i2 := (List.getElem?_eq_some_iff.mp hk)
        exact hj ((List.getElem_inj w.nd).mp (i1.2.trans i2.2.symm))
      exact ⟨us, by rw [upd_ne hb]; exact g1, FzA.mono sm g2⟩
  · intro t ht
    obtain ⟨ps, e1, e2, e3⟩ := w.tabs t ht
    refine ⟨ps, by rw [upd_ne (fun z => by rw [z, h1] at e1; cases e1)]; exact e1, e2, fun pos cv hc => ?_⟩
    obtain ⟨c, f1, f2⟩ := e3 pos cv hc
    exact ⟨c, f1, by rw [upd_ne (fun z => by rw [z, h1] at f2; cases f2)]; exact f2⟩
theorem ds_cellSet (i : Nat) {q sp : Pos} (he : DE X G E e m) (hb : DBo X G E b mb) (hN : X.N[i]? = some x := by rfl) (hv : Vis X.env.scope x := by first | exact Or.inl rfl | exact Or.inr (Or.inl rfl) | exact Or.inr (Or.inr rfl))
    (hd : (x == ("__debug__" : Str)) = false := by decide) (hcd : (x == ("__classdict__" : Str)) = false := by decide)
    (ha : ∀ v, assign (.Subscript (.Name x q) b sp) X.env v = (do
      let ov ← holding [v] (eval (.Name x q) X.env)
      let iv ← holding [v, ov] (eval b X.env)
      standAt sp
      holding [v, ov, iv] (setItem ov iv v)
      release [v, ov, iv] []) := by intro _; rfl)
    (hs : swapsWithSole [.Subscript (.Name x q) b sp] e pos.line X.env = pure false := by rfl) (hw : swappedStores [.Subscript (.Name x q) b sp] e X.env = pure none := by rfl)
    (h1 : (assignEach [.Subscript (.Name x q) b sp] X.env).map (·.2) = [assign (.Subscript (.Name x q) b sp) X.env] := by rfl) : DS X G E ρ₀ H₀ B (.Assign [.Subscript (.Name x q) b sp] e pos) (xCellSet i mb m) := by
  refine ⟨he.hK, PS.less (ps_asg he.pe (pg_sub (pe_var hN hv hd hcd) hb.pe set_list ha) hs hw h1) fun D σ H h => ?_⟩
  obtain ⟨ρ, env, hs, R, w, q⟩ := h
  refine tD_s R w q fun r ρ1 hs1 H1 e1 w1 q1 v rr => ?_
  have R1 := R.ext' e1
  split at q1
  · rename_i k d ek
    obtain ⟨u, e3, a, rfl, ha'⟩ := slot_get R1.sr ek
    refine ⟨.ref a, e3, tB_s R1 w1 q1 fun z ρ2 hs2 H2 e2 w2 q2 y br => ?_⟩
    split at q2
    · rename_i j ds hds
      split at q2
      · rename_i n hn
        have ha2 := pre_get e2.pre ha'
        obtain ⟨vs, g1, g2⟩ := w2.at_ k a ds ha2 hds
        have fv : Fz G.K H2 v d := Fz.mono e2.sm rr
        have g3 : FzA G.K H2 (vs.set n v) (ds.set n d) := g2.set fv n
        obtain ⟨w3, e4⟩ := wd_set w2 ha2 g3
        refine ⟨a, vs, j, n, rfl, br.int, g1, by rw [g2.length]; exact hn, ?_⟩
        exact q2 ρ2 σ _ ((R1.ext' e2).ext' e4) w3
      · exact q2.elim
    · exact q2.elim
  · exact q1.elim

/-! ### an owned list changed by its methods -/
/-- x.append(e) -/
def xApp (i : Nat) (m : XE) : XS := fun env hs => match env[i]?.join with
  | some (.own ds) => bindE (m env hs) fun r hs1 => match r with
    | .dat d => if ds.length < sizeLine then .ok (.nx, env.set i (some (.own (ds ++ [d]))), hs1) else .stuck
    | _ => .stuck
  | _ => .stuck
theorem ty_lst {K : PySem.W.Frag} {H : Hp} {a : Addr} {vs : List V} (h : H a = some (.lst vs)) : tyV K "list" (.ref a) H := .inl ⟨rfl, vs, .inl (.inl h)⟩
theorem ds_append (i : Nat) {q apos cpos : Pos} (he : DE X G E e m) (hN : X.N[i]? = some x := by rfl) (hv : Vis X.env.scope x := by first | exact Or.inl rfl | exact Or.inr (Or.inl rfl) | exact Or.inr (Or.inr rfl))
    (hd : (x == ("__debug__" : Str)) = false := by decide) (hcd : (x == ("__classdict__" : Str)) = false := by decide) (h0 : ∀ {t : TE}, PE X (.Call (.Attribute (.Name x q) "append" apos) [e] [] cpos) t → PS X (.Expr (.Call (.Attribute (.Name x q) "append" apos) [e] [] cpos) pos) (tDrop t) := by exact fun h => ps_expr h)
    (h1 : ∀ {t : TE}, PE X e t → PE X (.Call (.Attribute (.Name x q) "append" apos) [e] [] cpos) (tBM X.K "list" rAppend (tVar i) (tCons t tNil)) := by exact fun h => pe_bm PySem.F.plainAttrs_list PySem.F.slot_list_append PySem.F.type_list_append mt_append (pe_var (by first | rfl | assumption) (by first | exact Or.inl rfl | exact Or.inr (Or.inl rfl) | exact Or.inr (Or.inr rfl) | assumption) (by first | decide | assumption) (by first | decide | assumption)) (pa_cons h pa_nil)) :
    DS X G E ρ₀ H₀ B (.Expr (.Call (.Attribute (.Name x q) "append" apos) [e] [] cpos) pos) (xApp i m) := by
  refine ⟨he.hK, PS.less (h0 (h1 he.pe)) fun D σ H h => ?_⟩
  obtain ⟨ρ, env, hs, R, w, q⟩ := h
  unfold xApp at q
  split at q
  · rename_i ds hds
    obtain ⟨v, e1, a, vs, rfl, g1, g2, g3⟩ := slot_get R.sr hds
    refine ⟨.ref a, e1, ty_lst g1, tD_s R w q fun r ρ1 hs1 H1 x1 w1 q1 y rr => ?_⟩
    split at q1
    · rename_i d
      by_cases hz : ds.length < sizeLine
      · rw [if_pos hz] at q1
        have R1 := R.ext' x1
        have h1' := x1.sm.lst g1 g2
        have n1 := x1.nin g1 g2
        have f1 : FzA G.K H1 (vs ++ [y]) (ds ++ [d]) := (FzA.mono x1.sm g3).append (.one rr)
        exact ⟨a, vs, y, rfl, rfl, h1', by rw [g3.length]; exact hz, q1 ρ1 σ _ (R1.own (join_some hds) e1 h1' n1 (fun _ => ⟨a, vs ++ [y], rfl, upd_same, n1, (fz_upd h1').2 f1⟩) (fun _ _ => ⟨_, rfl⟩)) (wd_upd w1 h1' n1)⟩
      · rw [if_neg hz] at q1; exact q1.elim
    · exact q1.elim
  · exact q.elim

/-! ### the script -/
def xScrLen (i : Nat) : XE := fun env hs => match env[i]?.join with
  | some (.scr ns) => .ok (.dat (.int ns.length), hs)
  | _ => .stuck
theorem de_scrLen (i : Nat) {lx : Str} {q p' : Pos} (hg : Gl X lx) (hm : X.mg lx = none) (hv0 : bootBuiltins lx = some (.builtin "len")) (hn : lx ≠ "__name__" := by decide) (hdb : (lx == ("__debug__" : Str)) = false := by decide)
    (hN : X.N[i]? = some x := by rfl) (hv : Vis X.env.scope x := by first | exact Or.inl rfl | exact Or.inr (Or.inl rfl) | exact Or.inr (Or.inr rfl)) (hd : (x == ("__debug__" : Str)) = false := by decide) (hcd : (x == ("__classdict__" : Str)) = false := by decide)
    (hK : G.K = X.K := by rfl) (h1 : starEach [.Name x q] X.env = (false, eval (.Name x q) X.env) :: starEach [] X.env := by rfl) (hpl : (backTo pos (starEach [] X.env)).any (·.1) = false := by rfl) : DE X G E (.Call (.Name lx p') [.Name x q] [] pos) (xScrLen i) := by
  refine ⟨hK, PE.less (pe_callB call_len_seq hg hm hv0 (pa_cons (pe_var hN hv hd hcd) pa_nil h1) hn hdb h1 hpl) fun σ H Q h => ?_⟩
  obtain ⟨ρ, env, hs, R, w, q⟩ := h
  unfold xScrLen at q
  split at q
  · rename_i ns hns
    obtain ⟨v, e1, a, rfl, ha⟩ := slot_get R hns
    refine ⟨.ref a, e1, a, ns.map V.int, rfl, .inl (by rw [← hK]; exact ha.sq), ?_⟩
    rw [List.length_map]
    exact q ρ H (Ext.refl _ _) w _ (.int _)
  · exact q.elim
def xScrIx (i : Nat) (mb : XD) : XE := fun env hs => match env[i]?.join with
  | some (.scr ns) => andThen (mb env hs) fun e hs1 => match e with
    | .int j => match atI ns j with
      | some n => .ok (.dat (.int n), hs1)
      | none => .stuck
    | _ => .stuck
  | _ => .stuck
theorem atI_map {α β : Type} (f : α → β) {xs : List α} {i : Int} {y : α} (h : atI xs i = some y) : atI (xs.map f) i = some (f y) := by
  unfold atI at h ⊢
  rw [List.length_map]
  obtain ⟨j, e1, e2⟩ := Option.bind_eq_some_iff.mp h
  rw [e1]
  simp [e2]
theorem de_scrIx (i : Nat) {q : Pos} (hb : DBo X G E b mb) (hs : PlainIx b := by exact fun _ _ => rfl) (hN : X.N[i]? = some x := by rfl) (hv : Vis X.env.scope x := by first | exact Or.inl rfl | exact Or.inr (Or.inl rfl) | exact Or.inr (Or.inr rfl))
    (hd : (x == ("__debug__" : Str)) = false := by decide) (hcd : (x == ("__classdict__" : Str)) = false := by decide) : DE X G E (.Subscript (.Name x q) b pos) (xScrIx i mb) := by
  refine ⟨hb.hK, PE.less (pe_ix ix_list (pe_var hN hv hd hcd) hb.pe hs) fun σ H Q h => ?_⟩
  obtain ⟨ρ, env, hs, R, w, q⟩ := h
  unfold xScrIx at q
  split at q
  · rename_i ns hns
    obtain ⟨v, e1, a, rfl, ha⟩ := slot_get R hns
    refine ⟨.ref a, e1, tB_seq R w q fun e ρ1 hs1 H1 x1 w1 q1 v2 br => ?_⟩
    split at q1
    · rename_i j
      split at q1
      · rename_i n hn
        exact ⟨a, ns.map V.int, j, .int n, rfl, br.int, by rw [← hb.hK]; exact (ha.mono x1.sm).sq, atI_map V.int hn, q1 ρ1 H1 (Ext.refl _ _) w1 _ (.int n)⟩
      · exact q1.elim
    · exact q1.elim
  · exact q.elim

/-! ### isinstance -/
def xIsi (f : D → Bool) (ma : XD) : XE := fun env hs => andThen (ma env hs) fun d hs1 => .ok (.dat (.bool (f d)), hs1)
/-- isinstance(e, T), T a built-in class told of data -/
theorem de_isi {T : String} {f : D → Bool} {ix tx : Str} {p1 p2 : Pos} (rule : ∀ {prog : Program} {w : World} {A : Around} {E : Value → Shared → Prop} {s : Shared} {v : Value} {d : PyData} {as : List Addr} {Q : Value → Shared → Prop}, Reads s.heap v d as → (∀ tk, s.toks ≤ tk → Q (.bool (f d)) { s with toks := tk }) → wpAny (model prog w) A (call (.builtin "isinstance") [v, .type T]) Q E s)
    (ha : DBo X G E a ma) (hg : Gl X ix) (hm : X.mg ix = none) (hv : bootBuiltins ix = some (.builtin "isinstance")) (hg2 : Gl X tx) (hm2 : X.mg tx = none) (hv2 : bootBuiltins tx = some (.type T))
    (hn : ix ≠ "__name__" := by decide) (hdb : (ix == ("__debug__" : Str)) = false := by decide) (hn2 : tx ≠ "__name__" := by decide) (hdb2 : (tx == ("__debug__" : Str)) = false := by decide)
    (h1 : starEach [a, .Name tx p2] X.env = (false, eval a X.env) :: starEach [.Name tx p2] X.env := by rfl) (h2 : starEach [.Name tx p2] X.env = (false, eval (.Name tx p2) X.env) :: starEach [] X.env := by rfl) (hpl : (backTo pos (starEach [.Name tx p2] X.env)).any (·.1) = false := by rfl) :
    DE X G E (.Call (.Name ix p1) [a, .Name tx p2] [] pos) (xIsi f ma) := by
  have hc : CallR X (.builtin "isinstance") (fun xs H Q => ∃ ρ x d, xs = [x, .ty T] ∧ Br X.K ρ H x d ∧ Q (.bl (f d)) H) := fun pins s σ H xs us Q I r h => by
    obtain ⟨ρ, x, d, rfl, br, q⟩ := h
    obtain ⟨u, u2, rfl, r1, r2⟩ := r.two
    cases r2
    obtain ⟨as, rd⟩ := Dp.reads I d x u br.dp r1
    exact rule rd fun tk _ => ⟨.bl (f d), H, I.tok _, rfl, q⟩
  refine ⟨ha.hK, PE.less (pe_callB hc hg hm hv (pa_cons ha.pe (pa_cons (pe_bltn (v := .ty T) hg2 hm2 hv2 rfl hn2 hdb2) pa_nil h2) h1) hn hdb h1 hpl) fun σ H Q h => ?_⟩
  obtain ⟨ρ, env, hs, R, w, q⟩ := h
  refine tB_seq R w q fun d ρ1 hs1 H1 e1 w1 q1 v br => ?_
  exact ⟨ρ1, v, d, rfl, by rw [← ha.hK]; exact br, q1 ρ1 H1 (Ext.refl _ _) w1 _ (.bl _)⟩
end
end DL
set_option Elab.async false
set_option linter.all false
set_option maxRecDepth 100000
set_option maxHeartbeats 4000000
/-! DK: sorted(xs, key=f), f(x) being (len(x), x). -/
namespace DL
open PySem PySem.Spec PyProof.Rows L2 LamX TL
open PySem.W (alike dataLe EachIs AllAlike Sortable KeyIs KeyEnd sorted_key_data_frame)

/-- a text or a tuple and its length -/
def LenOf (s : Shared) (v : Value) (n : Nat) : Prop := (∃ x t, v = .str x t ∧ x.length = n ∧ n ≤ sizeLine) ∨ ∃ a items, v = .ref a ∧ IsTup s.heap a items ∧ items.size = n ∧ n ≤ sizeLine
theorem LenOf.keep {s s' : Shared} {v : Value} {n : Nat} (k : ∀ b o, s.heap.get? b = some o → s'.heap.get? b = some o) (h : LenOf s v n) : LenOf s' v n := by
  rcases h with h | ⟨a, items, h1, ⟨o, h2, h3⟩, h4⟩
  · exact .inl h
  · exact .inr ⟨a, items, h1, ⟨o, k _ _ h2, h3⟩, h4⟩
theorem len_of {prog : Program} {w : World} {A : Around} {E : Value → Shared → Prop} {s : Shared} {v : Value} {n : Nat} {Q : Value → Shared → Prop} (h : LenOf s v n) (hQ : ∀ t tk, Q (.int n t) { s with toks := tk }) : wpAny (model prog w) A (call (.builtin "len") [v]) Q E s := by
  have hn := line63
  rcases h with ⟨x, t, rfl, h1, h2⟩ | ⟨a, items, rfl, h1, h2, h3⟩
  · subst h1
    exact len_str (by omega) (hQ _ _)
  · subst h2
    exact len_tuple h1 (by omega) (hQ _ _)
/-- calling f on v gives (len(v), v) and changes nothing -/
def KeyCall (X : Cx) (f : Value) : Prop := ∀ (A : Around) (s1 : Shared) (v : Value) (n : Nat) (Q : Value → Shared → Prop) (E : Value → Shared → Prop), A.depth < recursionLimit → (∀ b o, X.base.get? b = some o → s1.heap.get? b = some o) → LenOf s1 v n →
  (∀ h' tk t a, (∀ b o, s1.heap.get? b = some o → h'.get? b = some o) → s1.heap.get? a = none → h'.get? a = some { cls := .type "tuple", data := .seq #[.int n t, v] } → Q (.ref a) { s1 with heap := h', toks := tk }) → wpAny (model X.prog X.w) A (call f [v]) Q E s1
/-- the body that such a def has -/
abbrev keyBody (x : Str) (p1 p2 p3 p4 p5 p6 : Pos) (k : Nat) : List Stmt := [.Return (some (.Tuple [.Call (.Name "len" p1) [.Name x p2] [] p3, .Name x p4] k p5)) p6]
/-- the body, run in a frame whose name x holds v -/
theorem key_body {X : Cx} (M : Mod X.K X.mg X.base) {env : Env} {A : Around} {s1 s2 : Shared} {E : Value → Shared → Prop} {Q : Flow → Shared → Prop} {x : Str} {m : Str → Option Value} {v : Value} {n : Nat} {p1 p2 p3 p4 p5 p6 : Pos} {k : Nat} (hm : X.mg "len" = none)
    (hk : env.scope.kind = .function) (hg : env.kindOf "len" = some .globalImplicit) (hgl : env.globals = mainGlobals) (hbl : env.builtins = builtinsNs) (hloc : env.kindOf x = some .local) (hns : s2.heap.Ns env.locals m) (hx : m x = some v) (hl : LenOf s1 v n)
    (kb : ∀ b o, X.base.get? b = some o → s1.heap.get? b = some o) (k12 : ∀ b o, s1.heap.get? b = some o → s2.heap.get? b = some o) (e12 : ∃ h tk, s2 = { s1 with heap := h, toks := tk }) (hd : (x == ("__debug__" : Str)) = false)
    (q : ∀ h' tk t a, (∀ b o, s1.heap.get? b = some o → h'.get? b = some o) → s1.heap.get? a = none → h'.get? a = some { cls := .type "tuple", data := .seq #[.int n t, v] } → Q (.ret (.ref a)) { s1 with heap := h', toks := tk }) :
    wpAny (model X.prog X.w) A (execs (keyBody x p1 p2 p3 p4 p5 p6 k) env) Q E s2 := by
  obtain ⟨h2, tk2, rfl⟩ := e12
  obtain ⟨mb, b1, b2⟩ := M.blt
  have kb2 : ∀ b o, X.base.get? b = some o → h2.get? b = some o := fun b o e => k12 b o (kb b o e)
  refine wpAny_execs_cons (wpAny_Return_some (wpAny_Tuple_spliced ?_))
  show wpAny _ _ (spliced [(false, _), (false, _)]) _ _ _
  refine Calls.spliced_cons ?_
  refine wpAny_mono (wpAny_Call_Name_kw (Calls.Name_function_global hk hg (Calls.loadGlobal_builtin (mb := mb) (by rw [hgl]; exact M.glob.keeps kb2) hm (by rw [hbl]; exact b1.keeps kb2) ((b2 "len" (by decide)).trans PySem.boot_len) ?_) (by decide)) : wpAny _ _ _ (fun u s' => ∃ t tk, u = .int n t ∧ s' = { s1 with heap := h2, toks := tk }) E _) ?_ fun _ _ e => e
  · refine PyProof.Rows.callWith_builtin1 ?_ rfl rfl
    show wpAny _ _ (spliced [(false, _)]) _ _ _
    refine Calls.spliced_cons (wpAny_Name (wpAny_loadName_local hk hloc hns hx (Calls.spliced_nil ?_)) hd)
    exact len_of (hl.keep k12) fun t tk => ⟨t, tk, rfl, rfl⟩
  · rintro u s' ⟨t, tk, rfl, rfl⟩
    refine Calls.spliced_cons (wpAny_Name (wpAny_loadName_local hk hloc hns hx (Calls.spliced_nil ⟨?_, ?_⟩)) hd)
    · rw [sizeLine_eq]
      show 2 ≤ 16777216
      decide
    · refine q _ tk t h2.objs.size (fun b o e => Heap.get?_push_of_some _ (k12 b o e)) ?_ (Heap.get?_push_size _ rfl)
      cases e : s1.heap.get? h2.objs.size with
      | none => rfl
      | some o => exact absurd (Heap.lt_size (k12 _ _ e)) (Nat.lt_irrefl _)
theorem bindL_one {kindOf : Str → Option NameKind} {x : Str} {v : Value} (h : kindOf x = some .local) : bindL kindOf [(x, v)] (fun _ => none) x = some v := by
  have := L2.bindL_get (kindOf := kindOf) (P := [x]) (vs := [v]) (i := 0) (m := fun _ => none) (by simp) rfl rfl h
  exact this
/-- a def of that body -/
theorem key_def {X : Cx} {x nm : Str} {st : Stmt} {f : Addr} {fd : FuncData} {p1 p2 p3 p4 p5 p6 : Pos} {k : Nat} (M : Mod X.K X.mg X.base) (F : Fun X.K nm nm st f fd) (hb : L2.Binds X.K fd [x] []) (hbody : defBody st = keyBody x p1 p2 p3 p4 p5 p6 k) (hm : X.mg "len" = none)
    (hk : (defScope st).kind = .function) (hco : (defScope st).isCoroutine = false) (hgen : (defScope st).isGenerator = false) (hx : (defScope st).names.lookup x = some .local) (hln : (defScope st).names.lookup ("len" : Str) = some NameKind.globalImplicit) (hd : (x == ("__debug__" : Str)) = false) : KeyCall X (.ref f) := by
  intro A s1 v n Q E hroom kb hl q
  obtain ⟨oc, od, kV, doc, pm, an, cdv, ct, osl, rfl, lk, hcd⟩ := F.ex
  have hK : X.K.In s1.heap := M.kin.keeps kb
  refine wpAny_call (Att.call_fn (binds := [(x, v)]) hK (M.nolimit.keeps kb) lk hcd hroom (hb s1 [v] hK rfl) (by simp [hx]) (fun s2 IC => ?_) hco hgen hk)
  rw [hbody]
  obtain ⟨h2, tk2, e2, k2⟩ := IC.done
  subst e2
  refine key_body M hm hk hln rfl rfl hx IC.toInCall.ns (bindL_one hx) hl kb k2 ⟨_, _, rfl⟩ hd fun h' tk t a k' n' o' => ?_
  exact q h' tk t a k' n' o'

/-! ### data without lists -/
mutual
def noList : D → Bool
  | .list _ => false
  | .dict _ => false
  | .tuple xs => noListA xs
  | _ => true
def noListA : List D → Bool
  | [] => true
  | x :: xs => noList x && noListA xs
end
def MoreOk (base h : Heap) (more : List (Addr × Obj)) : Prop := ∀ p ∈ more, p.2.cls = .type "tuple" ∧ h.get? p.1 = some p.2 ∧ base.get? p.1 = none ∧ ∃ vs n, p.2.data = .seq vs n
mutual
theorem reads_more {base h : Heap} (hb : ∀ b o, base.get? b = some o → h.get? b = some o) : ∀ (d : D) {v : Value} {as : List Addr}, Reads h v d as → noList d = true →
    ∃ more, MoreOk base h more ∧ ∀ h' : Heap, (∀ b o, base.get? b = some o → h'.get? b = some o) → (∀ p ∈ more, h'.get? p.1 = some p.2) → ∃ as, Reads h' v d as
  | .none, _, _, r, _ => by cases r; exact ⟨[], (fun _ h => by cases h), fun h' _ _ => ⟨_, .none⟩⟩
  | .bool b, _, _, r, _ => by cases r; exact ⟨[], (fun _ h => by cases h), fun h' _ _ => ⟨_, .bool b⟩⟩
  | .int b, _, _, r, _ => by cases r; exact ⟨[], (fun _ h => by cases h), fun h' _ _ => ⟨_, .int b _⟩⟩
  | .str b, _, _, r, _ => by cases r; exact ⟨[], (fun _ h => by cases h), fun h' _ _ => ⟨_, .str b _⟩⟩
  | .list b, _, _, _, n => by simp [noList] at n
  | .dict b, _, _, _, n => by simp [noList] at n
  | .tuple xs, _, _, r, n => by
    cases r with
    | tuple ho hc hd ra =>
      rename_i a o vs k
      obtain ⟨more, m1, m2⟩ := readsA_more hb xs ra (by simpa [noList] using n)
      cases q : base.get? a with
      | some o' =>
        have e := hb a o' q
        rw [ho] at e
        have e' : o = o' := Option.some.inj e
        subst e'
        refine ⟨more, m1, fun h' kb km => ?_⟩
        obtain ⟨as, r'⟩ := m2 h' kb km
        exact ⟨_, .tuple (kb a o q) hc hd r'⟩
      | none =>
        refine ⟨(a, o) :: more, fun p hp => ?_, fun h' kb km => ?_⟩
        · rcases List.mem_cons.mp hp with rfl | hp
          · exact ⟨hc, ho, q, vs, k, hd⟩
          · exact m1 p hp
        · obtain ⟨as, r'⟩ := m2 h' kb fun p hp => km p (List.mem_cons_of_mem _ hp)
          exact ⟨_, .tuple (km (a, o) List.mem_cons_self) hc hd r'⟩
theorem readsA_more {base h : Heap} (hb : ∀ b o, base.get? b = some o → h.get? b = some o) : ∀ (ds : List D) {vs : List Value} {as : List Addr}, ReadsAll h vs ds as → noListA ds = true →
    ∃ more, MoreOk base h more ∧ ∀ h' : Heap, (∀ b o, base.get? b = some o → h'.get? b = some o) → (∀ p ∈ more, h'.get? p.1 = some p.2) → ∃ as, ReadsAll h' vs ds as
  | [], _, _, r, _ => by cases r; exact ⟨[], (fun _ h => by cases h), fun h' _ _ => ⟨_, .nil⟩⟩
  | d :: ds, _, _, r, n => by
    have n' : noList d = true ∧ noListA ds = true := by simpa [noListA] using n
    cases r with
    | cons r1 r2 =>
      obtain ⟨m1, a1, a2⟩ := reads_more hb d r1 n'.1
      obtain ⟨m2, b1, b2⟩ := readsA_more hb ds r2 n'.2
      refine ⟨m1 ++ m2, fun p hp => (List.mem_append.mp hp).elim (a1 p) (b1 p), fun h' kb km => ?_⟩
      obtain ⟨_, q1⟩ := a2 h' kb fun p hp => km p (List.mem_append_left _ hp)
      obtain ⟨_, q2⟩ := b2 h' kb fun p hp => km p (List.mem_append_right _ hp)
      exact ⟨_, .cons q1 q2⟩
end

/-! ### sorted(xs, key=f) -/
def lenKey : D → Option D
  | .str x => if x.length ≤ sizeLine then some (.tuple [.int x.length, .str x]) else none
  | .tuple ds => if noListA ds = true ∧ ds.length ≤ sizeLine then some (.tuple [.int ds.length, .tuple ds]) else none
  | _ => none
def keyL (d : D) : D := (lenKey d).getD .none
def sortedLenD (ds : List D) : Option SV := if ((ds.all fun d => (lenKey d).isSome) && sortOkB (ds.map keyL)) = true then some (.own (ds.mergeSort (dataLe false keyL))) else none
theorem objOk_there {P : Program} {w : World} {H : Hp} {h : Heap} {a : Addr} {o : HO} (x : ObjOk P w H h a o) : ∃ o', h.get? a = some o' := by
  cases o with
  | lst xs => obtain ⟨_, _, _, _, e⟩ := x; exact ⟨_, e⟩
  | tup xs => obtain ⟨_, _, _, _, e, _⟩ := x; exact ⟨_, e⟩
  | dK kvs => obtain ⟨_, _, _, _, o, _, _, e, _⟩ := x; exact ⟨_, e⟩
  | dT kvs => obtain ⟨_, _, _, _, o, _, _, e, _⟩ := x; exact ⟨_, e⟩
  | set S n => obtain ⟨o, _, _, _, e, _⟩ := x; exact ⟨_, e⟩
  | ins C dx fs => obtain ⟨_, _, _, e, _⟩ := x; exact ⟨_, e⟩
  | own y => obtain ⟨_, e⟩ := x; exact ⟨_, e⟩
  | xd fs => obtain ⟨_, ⟨_, _, _, e, _⟩, _⟩ := x; exact ⟨_, e⟩
  | rng lo hi => obtain ⟨_, _, _, e⟩ := x; exact ⟨_, e⟩
  | frz ob u => obtain ⟨e, _⟩ := x; exact ⟨_, e⟩
  | tbl ps => exact ⟨_, x⟩
  | met f y => exact ⟨_, x⟩
  | ext φ => obtain ⟨_, ⟨_, e⟩, _⟩ := x; exact ⟨_, e⟩
theorem inv_frame {X : Cx} {pins : List (Addr × Obj)} {σ : L2.St} {H : Hp} {s : Shared} {m : Str → Option Value} {h : Heap} {tk : Nat} (I : Inv X pins σ H s) (hm : s.heap.Ns X.env.locals m) (F : PyProof.Rows.Fr X.base X.env.locals h m)
    (k : ∀ b o, b ≠ X.env.locals → s.heap.get? b = some o → h.get? b = some o) : Inv X pins σ H { s with heap := h, toks := tk } := by
  have hs : ∀ b o, H b = some o → b ≠ X.env.locals := fun b o e z => by rw [z, I.free] at e; cases e
  have hL : ∃ o, h.get? X.env.locals = some o := let ⟨o, _, _, e, _⟩ := F.ns; ⟨o, e⟩
  refine I.step (g' := s.gens) (d' := s.drawn) (t' := tk) (ch := []) (fun _ z => nomatch z) (fun b o hb _ _ e _ => k b o hb e) (fun b o hb _ _ e _ => ⟨o.slots, k b o hb e⟩) (fun b o _ _ n => n) (fun b o _ e => ?_) (fun _ _ e => e) (fun _ _ _ e => e)
    (fun b ps e => ⟨#[], by rw [e]; simp⟩) (fun m' hm' => ?_) (fun b u e => ?_) I.bare
  · by_cases hb : b = X.env.locals
    · subst hb; exact hL
    · exact ⟨o, k b o hb e⟩
  · rw [hm'.eq_nsMap, ← hm.eq_nsMap]
    exact F.ns
  · refine (I.hok b u e).stay (fun c v hc q => k c v ?_ q) (fun _ q => q) fun _ _ q => q
    rcases hc with rfl | hc
    · exact hs _ _ e
    · exact hs _ _ hc
/-- the same, and a new object tracked -/
theorem inv_frame_new {X : Cx} {pins : List (Addr × Obj)} {σ : L2.St} {H : Hp} {s : Shared} {m : Str → Option Value} {h : Heap} {tk : Nat} {a : Addr} {o : HO} (I : Inv X pins σ H s) (hm : s.heap.Ns X.env.locals m) (F : PyProof.Rows.Fr X.base X.env.locals h m)
    (k : ∀ b o, b ≠ X.env.locals → s.heap.get? b = some o → h.get? b = some o) (hn : s.heap.get? a = none) (ha : H a = none) (hal : a ≠ X.env.locals) (new : ObjOk X.prog X.w (L2.upd H a o) h a o) : Inv X pins σ (L2.upd H a o) { s with heap := h, toks := tk } := by
  have hs : ∀ b o, H b = some o → b ≠ X.env.locals := fun b o e z => by rw [z, I.free] at e; cases e
  have hL : ∃ o, h.get? X.env.locals = some o := let ⟨o, _, _, e, _⟩ := F.ns; ⟨o, e⟩
  have keep : ∀ b u, H b = some u → L2.upd H a o b = some u := fun b u e => by rw [upd_ne (ne_of_none e ha)]; exact e
  have hna : ∀ b u, s.heap.get? b = some u → b ≠ a := fun b u e z => by rw [z, hn] at e; cases e
  refine I.step (g' := s.gens) (d' := s.drawn) (t' := tk) (ch := []) (fun _ z => nomatch z) (fun b o hb _ _ e _ => k b o hb e) (fun b o hb _ _ e _ => ⟨o.slots, k b o hb e⟩) (fun b u _ e n => by rw [upd_ne (hna b u e)]; exact n) (fun b o _ e => ?_) (fun _ _ e => keep _ _ e) (fun _ _ _ e => keep _ _ e)
    (fun b ps e => ⟨#[], by rw [keep _ _ e]; simp⟩) (fun m' hm' => ?_) (fun b u e => ?_) I.bare
  · by_cases hb : b = X.env.locals
    · subst hb; exact hL
    · exact ⟨o, k b o hb e⟩
  · rw [hm'.eq_nsMap, ← hm.eq_nsMap]
    exact F.ns
  · by_cases hb : b = a
    · subst hb; rw [upd_same] at e; cases e; exact new
    · rw [upd_ne hb] at e
      refine (I.hok b u e).stay (fun c v hc q => k c v ?_ q) (fun _ q => keep _ _ q) fun _ _ q => keep _ _ q
      rcases hc with rfl | hc
      · exact hs _ _ e
      · exact hs _ _ hc
theorem sorted_len {X : Cx} {G : Gx} {f : Value} {fv : V} (hf : RelV fv f) (hfr : ∃ q, f = .ref q) (KC' : Mod X.K X.mg X.base → KeyCall X f) (hu : X.A.units + 80 < cLine) (hdp : X.A.depth + 4 < recursionLimit) (hK : G.K = X.K) :
    CallRK X (.builtin "sorted") [Str.ofString "key"] (fun vs zs H Q => ∃ ρ v ds r, vs = [v] ∧ zs = [fv] ∧ Br G.K ρ H v (.list ds) ∧ sortedLenD ds = some r ∧ ∀ v H', Grow H H' → RN G H H' v r → Q v H') := by
  intro pins s σ H vs zs us ws Q I rv rz h
  have KC := KC' I.ok.mod
  obtain ⟨ρ, v, ds, r, rfl, rfl, br, hr, q⟩ := h
  obtain ⟨fa, rfl⟩ := hfr
  obtain ⟨w1, rfl, hw1⟩ := rz.one
  have ef : w1 = .ref fa := by
    have h1 := hf.abs
    have h2 := hw1.abs
    cases fv with
    | ref z => cases hf; cases hw1; rfl
    | non => cases hf
    | bl _ => cases hf
    | int _ => obtain ⟨_, e⟩ := hf; cases e
    | str _ => obtain ⟨_, e⟩ := hf; cases e
    | byt _ => obtain ⟨_, e⟩ := hf; cases e
    | flt _ => obtain ⟨_, e⟩ := hf; cases e
    | ty _ => cases hf
  subst ef
  obtain ⟨a, xs, rfl, h1, h2⟩ := br.lst
  rw [Vals.ref1 rv]
  obtain ⟨hz, its, n, rvs, hl, ho⟩ := Inv.rdM I h1
  unfold sortedLenD at hr
  split at hr
  · rename_i hc
    cases hr
    rw [Bool.and_eq_true] at hc
    obtain ⟨hc1, hc2⟩ := hc
    unfold sortOkB at hc2
    rw [Bool.and_eq_true, Bool.and_eq_true] at hc2
    have h2' : FzA X.K H xs ds := by rw [← hK]; exact h2
    have ez := each_VZ rvs h2'
    have hds : ds.length ≤ sizeLine := by rw [← h2.length]; exact hz
    obtain ⟨m, hm, _⟩ := id I.loc
    have F0 : PyProof.Rows.Fr X.base X.env.locals s.heap m := ⟨hm, I.bk, Nat.le_trans I.ok.bsz I.ok.above⟩
    have N0 : PyProof.Rows.News X.base X.env.locals s.heap (allNews X.base s.heap X.env.locals) := news_all
    have key : ∀ h own, PyProof.Rows.Fr X.base X.env.locals h m → PyProof.Rows.News X.base X.env.locals h (allNews X.base s.heap X.env.locals ++ own) → ∀ b o, b ≠ X.env.locals → s.heap.get? b = some o → h.get? b = some o := fun h own F N b o hb e => by
      cases q : X.base.get? b with
      | some u =>
        have e2 := I.bk b u q
        rw [e] at e2; cases e2
        exact F.keep b _ q
      | none => exact (N (b, o) (List.mem_append_left _ (mem_allNews hb q e))).1
    show wpAny (model X.prog X.w) X.A (call (.builtin "sorted") [.ref a] [(Str.ofString "key", .ref fa)]) _ _ s
    refine sorted_key_data_frame (b := false) (f := .ref fa) (bs := ds) (R := VZ X.K H) (l := a) keyL F0 N0 ⟨_, ho, rfl, n, rfl⟩ ez (allAlike_of hc2.1.1) (sortable_of hc2.1.2) hds (fun b hb => ?_) (by unfold argsOk; kernel_rfl) (fun x => by unfold argsOk; kernel_rfl) (fun x => ksk_t1 fa x)
      (fun v d hv hd h tk own F N => ?_) fun D out c h' tk F' N' hD hlen eo => ?_
    · have := of_decide_eq_true (List.all_eq_true.mp hc2.2 _ (List.mem_map.mpr ⟨b, hb, rfl⟩))
      omega
    · -- one call of f
      have kp := key h own F N
      have I1 : Inv X pins σ H { s with heap := h, toks := tk } := inv_frame I hm F kp
      obtain ⟨y, ry, fy⟩ := hv
      obtain ⟨as, rd⟩ := Dp.reads I1 d y v fy.dp ry
      have hk := List.all_eq_true.mp hc1 d hd
      have hln : ∃ n : Nat, LenOf { s with heap := h, toks := tk } v n ∧ keyL d = .tuple [.int n, d] ∧ noList d = true := by
        unfold keyL
        cases d with
        | str x =>
          by_cases hx : x.length ≤ sizeLine
          · cases fy with
            | str _ _ =>
              obtain ⟨t, rfl⟩ := ry
              exact ⟨x.length, .inl ⟨x, t, rfl, rfl, hx⟩, by simp [lenKey, hx], by simp [noList]⟩
          · simp [lenKey, hx] at hk
        | tuple xs =>
          by_cases hx : noListA xs = true ∧ xs.length ≤ sizeLine
          · cases rd with
            | tuple g1 g2 g3 g4 =>
              rename_i a' o' vs' k'
              have hl2 : vs'.size = xs.length := by
                cases fy with
                | tup s1 s2 =>
                  rename_i a'' ws
                  cases ry
                  obtain ⟨its2, r2, ⟨o2, p1, p2, n2, p3⟩, _⟩ := I1.tuple s1
                  rw [g1] at p1; cases p1
                  rw [g3] at p3; cases p3
                  have e1 := r2.length
                  have e2 := s2.length
                  simp only [List.size_toArray]
                  omega
              exact ⟨xs.length, .inr ⟨a', vs', rfl, ⟨o', g1, g2, k', g3⟩, hl2, hx.2⟩, by simp [lenKey, hx], by simp [noList, hx.1]⟩
          · simp [lenKey, hx] at hk
        | none => simp [lenKey] at hk
        | bool _ => simp [lenKey] at hk
        | int _ => simp [lenKey] at hk
        | list _ => simp [lenKey] at hk
        | dict _ => simp [lenKey] at hk
      obtain ⟨n', ln, ek, nl⟩ := hln
      rw [ek]
      refine KC X.A.in1.in1 _ v n' _ _ ?_ F.keep ln fun h2 tk2 t a2 k2 nw ha2 => ?_
      · show X.A.depth < _
        omega
      · obtain ⟨more, mo, mr⟩ := reads_more F.keep d rd nl
        have kb2 : ∀ b o, X.base.get? b = some o → h2.get? b = some o := fun b o e => k2 b o (F.keep b o e)
        have hLh : ∃ o es ep, h.get? X.env.locals = some o ∧ o.data = .dict es ep := let ⟨o, es, ep, e, d', _⟩ := F.ns; ⟨o, es, ep, e, d'⟩
        have na2 : a2 ≠ X.env.locals := fun z => by
          obtain ⟨o, es, ep, e, _⟩ := hLh
          rw [z, e] at nw; cases nw
        refine ⟨h2, tk2, (a2, { cls := .type "tuple", data := .seq #[.int n' t, v] }) :: more, rfl, fun h3 kb3 km3 => ?_, fun p hp => ?_, ⟨?_, kb2, F.above⟩, fun p hp => ?_⟩
        · obtain ⟨as3, r3⟩ := mr h3 kb3 fun p hp => km3 p (List.mem_cons_of_mem _ hp)
          exact ⟨_, .tuple (km3 _ List.mem_cons_self) rfl rfl (.cons (.int n' t) (.cons r3 .nil))⟩
        · rcases List.mem_cons.mp hp with rfl | hp
          · rfl
          · exact (mo p hp).1
        · obtain ⟨o, es, ep, e, d', r'⟩ := F.ns
          exact ⟨o, es, ep, k2 _ _ e, d', r'⟩
        · rcases List.mem_append.mp hp with hp | hp
          · obtain ⟨z1, z2, z3⟩ := N p hp
            exact ⟨k2 _ _ z1, z2, z3⟩
          · rcases List.mem_cons.mp hp with rfl | hp
            · refine ⟨ha2, na2, ?_⟩
              cases q0 : X.base.get? a2 with
              | none => rfl
              | some u =>
                have := F.keep _ _ q0
                rw [nw] at this; cases this
            · obtain ⟨z1, z2, z3, vs', k', z4⟩ := mo p hp
              refine ⟨k2 _ _ z2, fun z => ?_, z3⟩
              obtain ⟨o, es, ep, e, d'⟩ := hLh
              rw [z, e] at z2
              have z5 : o = p.2 := Option.some.inj z2
              rw [z5, z4] at d'; cases d'
    · have kp : ∀ b o, b ≠ X.env.locals → s.heap.get? b = some o → h'.get? b = some o := fun b o hb e => by
        cases q : X.base.get? b with
        | some u =>
          have e2 := I.bk b u q
          rw [e] at e2; cases e2
          exact F'.keep b _ q
        | none => exact (N' (b, o) (List.mem_cons_of_mem _ (mem_allNews hb q e))).1
      obtain ⟨d1, d2, d3⟩ := N' _ List.mem_cons_self
      have hn : s.heap.get? D = none := by
        cases e : s.heap.get? D with
        | none => rfl
        | some u => exact absurd (hD _ (mem_allNews d2 d3 e)) (Nat.lt_irrefl _)
      have hH : H D = none := by
        cases e : H D with
        | none => rfl
        | some u =>
          obtain ⟨o, z⟩ := objOk_there (I.hok D u e)
          rw [hn] at z; cases z
      obtain ⟨wv, g1, g2⟩ := each_VZ_out eo
      have hw : wv.length ≤ sizeLine := by rw [g1.length, hlen]; exact hds
      refine ⟨.ref D, _, inv_frame_new (o := .lst wv) (tk := tk) I hm F' kp hn hH d2 ⟨hw, out, c, g1, d1⟩, rfl, q _ _ (grow_new hH) (rn_own hH (by rw [hK]; exact g2))⟩
  · cases hr
/-- sorted(e, key=f), f a def whose answer is (len(x), x) -/
def xSortedLen (ma : XD) : XE := fun env hs => andThen (ma env hs) fun d hs1 => match d with
  | .list ds => liftO (sortedLenD ds) hs1
  | _ => .stuck
theorem de_sortedLen {X : Cx} {G : Gx} {E : XK} {a : Expr} {ma : XD} {fa : Addr} {sx fx : Str} {p1 p2 kp pos : Pos} (KC : Mod X.K X.mg X.base → KeyCall X (.ref fa)) (hu : X.A.units + 80 < cLine) (hdp : X.A.depth + 4 < recursionLimit) (hg : Gl X sx) (hm : X.mg sx = none) (hv : bootBuiltins sx = some (.builtin "sorted")) (hg2 : Gl X fx) (hm2 : X.mg fx = some (.ref fa)) (ha : DBo X G E a ma)
    (hn : sx ≠ "__name__" := by decide) (hdb : (sx == ("__debug__" : Str)) = false := by decide) (hd2 : (fx == ("__debug__" : Str)) = false := by decide) (hs : starEach [a] X.env = (false, eval a X.env) :: starEach [] X.env := by rfl)
    (he : backTo pos (starEach [a] X.env) = (false, eval a X.env) :: backTo pos (starEach [] X.env) := by rfl) (hpl : (backTo pos (starEach [a] X.env)).any (·.1) = false := by rfl)
    (hall : (backToKw pos (keywordEach [⟨some (Str.ofString "key"), .Name fx p2, kp⟩] X.env)).all (·.1.isSome) = true := by rfl) (hnone : (backToKw pos (keywordEach [⟨some (Str.ofString "key"), .Name fx p2, kp⟩] X.env)).any (·.1.isNone) = false := by rfl)
    (hks : (backToKw pos (keywordEach [⟨some (Str.ofString "key"), .Name fx p2, kp⟩] X.env)).filterMap (·.1) = [Str.ofString "key"] := by rfl) :
    DE X G E (.Call (.Name sx p1) [a] [⟨some (Str.ofString "key"), .Name fx p2, kp⟩] pos) (xSortedLen ma) :=
  ⟨ha.hK, PE.less (pe_callBK (sorted_len (fv := .ref fa) rfl ⟨fa, rfl⟩ KC hu hdp ha.hK) hg hm hv (pa_cons ha.pe pa_nil hs) (pk_cons (pe_glob (v := .ref fa) hg2 hm2 rfl hd2) pk_nil) hn hdb he hpl hall hnone hks) fun σ H Q h => by
    obtain ⟨ρ, env, hs, R, w, q⟩ := h
    refine tB_seq R w q fun d ρ1 hs1 H1 e1 w1 q1 v br => ?_
    split at q1
    · obtain ⟨r, hr, q2⟩ := out_lift q1
      exact ⟨ρ1, v, _, r, rfl, rfl, br, hr, fun v3 H3 g3 rn => q2 ρ1 H3 (.ofAll g3) (w1.ofAll g3) v3 (rr_ext0 e1 (rn.rr w1))⟩
    · exact q1.elim⟩
end DL
set_option Elab.async false
set_option linter.all false
set_option maxRecDepth 100000
set_option maxHeartbeats 4000000
/-! DM: a search through pairs; zip, enumerate. -/
namespace DL
open PySem PySem.Spec PyProof.Rows L2 LamX TL
section
variable {X : Cx} {G : Gx} {E : XK} {ρ₀ : List Addr} {H₀ B : Hp} {a b c e e2 : Expr} {es : List Expr} {pos p : Pos} {ma mb mc : XD} {m : XE} {mA : XA} {x : Str} {st : Stmt} {sts : List Stmt} {m1 m2 mb' : XS} {g : XG}

/-- a list that is read -/
def Bl (K : PySem.W.Frag) (ρ : List Addr) (H : Hp) (a : Addr) (vs : List V) (ds : List D) : Prop := ((H a = some (.lst vs) ∧ a ∉ ρ) ∨ ∃ o, H a = some (.frz o (.lst vs))) ∧ FzA K H vs ds
theorem Bl.ext {K : PySem.W.Frag} {ρ ρ' : List Addr} {H H' : Hp} {q : Addr} {vs : List V} {ds : List D} (e : Ext ρ H ρ' H') (h : Bl K ρ H q vs ds) : Bl K ρ' H' q vs ds := by
  obtain ⟨h1, h2⟩ := h
  refine ⟨?_, FzA.mono e.sm h2⟩
  rcases h1 with ⟨h3, h4⟩ | ⟨o, h3⟩
  · exact .inl ⟨e.sm.lst h3 h4, e.nin h3 h4⟩
  · exact .inr ⟨o, e.sm.keep h3 (fun _ z => nomatch z) fun _ z => nomatch z⟩
theorem Bl.sq {K : PySem.W.Frag} {ρ : List Addr} {H : Hp} {q : Addr} {vs : List V} {ds : List D} (h : Bl K ρ H q vs ds) : SqL K H q vs := by
  rcases h.1 with ⟨h3, _⟩ | ⟨o, h3⟩
  · exact .inl (.inl h3)
  · exact .inl (.inr ⟨o, h3⟩)
theorem Br.lstB {K : PySem.W.Frag} {ρ : List Addr} {H : Hp} {v : V} {ds : List D} (h : Br K ρ H v (.list ds)) : ∃ a vs, v = .ref a ∧ Bl K ρ H a vs ds := by
  rcases h with h | ⟨a, vs, es, h1, h2, h3, h4, h5⟩
  · cases h with
    | lst e r => exact ⟨_, _, rfl, .inr ⟨_, e⟩, r⟩
  · cases h2; exact ⟨a, vs, h1, .inl ⟨h3, h4⟩, h5⟩
def zipP : List D → List D → List D := List.zipWith fun x y => .tuple [x, y]
def zipD : List D → Option (List D)
  | [.list ds, .list es] => some (zipP ds es)
  | _ => none
def xSearchL (g : XG) (t : XB) (m : XE) : List D → XS
  | [] => fun env hs => .ok (.nx, env, hs)
  | d :: r => fun env hs => match g d env with
    | some env1 => bindE (t env1 hs) fun k hs1 => if k = true then bindE (m env1 hs1) (fun r hs2 => .ok (.rt r, env1, hs2)) else xSearchL g t m r env1 hs1
    | none => .stuck
def xSearchZip (mA : XA) (g : XG) (t : XB) (m : XE) : XS := fun env hs => bindE (mA env hs) fun ds hs1 => match zipD ds with
  | some ps => xSearchL g t m ps env hs1
  | none => .stuck
theorem tAb_s {σ : L2.St} {H : Hp} {ρ : List Addr} {env : Envd} {hs : Hs} {f : List D → Hs → Res (Fl × Envd × Hs)} {Dn : Ends} {Q : List V → Hp → Prop} (R : SRs G ρ₀ H₀ B ρ H σ env) (w : Wd G ρ H hs)
    (h : OutS G E ρ₀ H₀ B (bindE (mA env hs) f) Dn) (k : ∀ r ρ1 hs1 H1, Ext ρ H ρ1 H1 → Wd G ρ1 H1 hs1 → OutS G E ρ₀ H₀ B (f r hs1) Dn → ∀ v, BrA G.K ρ1 H1 v r → Q v H1) : tAb G E mA σ H Q :=
  ⟨ρ, env, hs, R.sr, w, Out.imp (outS_seq R.ext h) fun r hs1 ρ1 H1 em e1 w1 q v rr => k r ρ1 hs1 H1 e1 w1 q v rr⟩
theorem zipP_get {ds es : List D} {i : Nat} (h : i < (zipP ds es).length) : ∃ x y, ds[i]? = some x ∧ es[i]? = some y ∧ (zipP ds es)[i] = .tuple [x, y] := by
  unfold zipP at h ⊢
  have h' := h
  rw [List.length_zipWith] at h'
  refine ⟨ds[i]'(by omega), es[i]'(by omega), by simp, by simp, ?_⟩
  rw [List.getElem_zipWith]
/-- for x, y in zip(a, b): if t: return e -/
theorem ds_searchZip {kk : Nat} {tpos pz pz2 pi pr : Pos} {elts : List Expr} {t : XB} (C : CxD X) (hg : Gl X "zip") (hm : X.mg "zip" = none) (ha : DAb X G E [a, b] mA) (hgt : DG_ X G (.Tuple elts kk tpos) g) (ht : DT X G E c t) (he : DE X G E e m)
    (hs : starEach [a, b] X.env = (false, eval a X.env) :: starEach [b] X.env := by rfl) (hpl : (backTo pz2 (starEach [b] X.env)).any (·.1) = false := by rfl)
    (hf : ∀ x, foldedSetIterable (.Call (.Name "zip" pz) [a, b] [] pz2) X.env x = pure x := by intro _; rfl) :
    DS X G E ρ₀ H₀ B (.For (.Tuple elts kk tpos) (.Call (.Name "zip" pz) [a, b] [] pz2) [.If c [.Return (some e) pr] [] pi] [] pos) (xSearchZip mA g t m) := by
  refine ⟨ha.hK, PS.less (ps_for C.po C.calm (pi_zip hg hm ha.pa hs hpl) hgt.pg (pss_one (ps_if ht.pt (pss_one (ps_ret he.pe)) pss_nil)) hf) fun D σ H h => ?_⟩
  obtain ⟨ρ, env, hs', R, w, q⟩ := h
  refine tAb_s R w q fun ds ρ1 hs1 H1 e1 w1 q1 vs br => ?_
  split at q1
  · rename_i ps hz
    unfold zipD at hz
    split at hz
    · rename_i ds1 ds2
      cases hz
      obtain ⟨v1, v2, rfl, b1, b2⟩ := br.two
      obtain ⟨a1, xs, rfl, l1⟩ := b1.lstB
      obtain ⟨a2, ys, rfl, l2⟩ := b2.lstB
      have R1 := R.ext' e1
      refine ⟨a1, a2, xs, ys, rfl, by rw [← ha.hK]; exact l1.sq, by rw [← ha.hK]; exact l2.sq, ?_⟩
      refine ⟨fun i m' σ H => m' + i = (zipP ds1 ds2).length ∧ ∃ ρ env hs, SRs G ρ₀ H₀ B ρ H σ env ∧ Wd G ρ H hs ∧ Bl G.K ρ H a1 xs ds1 ∧ Bl G.K ρ H a2 ys ds2 ∧ OutS G E ρ₀ H₀ B (xSearchL g t m ((zipP ds1 ds2).drop i) env hs) D, ⟨(zipP ds1 ds2).length, rfl, ρ1, env, hs1, R1, w1, l1, l2, by rw [List.drop_zero]; exact q1⟩, ?_⟩
      rintro i m' σ2 H2 ⟨hm', ρ2, env2, hs2, R2, w2, k1, k2, q2⟩
      have hK := ha.hK
      cases m' with
      | zero =>
        have hl : i = (zipP ds1 ds2).length := by omega
        have hl2 : (zipP ds1 ds2).length = min ds1.length ds2.length := by unfold zipP; rw [List.length_zipWith]
        rw [hl, List.drop_length] at q2
        refine .inl ⟨⟨xs, ys, by rw [← hK]; exact k1.sq, by rw [← hK]; exact k2.sq, ?_⟩, q2 ρ2 σ2 H2 R2 w2⟩
        rw [k1.2.length, k2.2.length]
        omega
      | succ m' =>
        have hl : i < (zipP ds1 ds2).length := by omega
        obtain ⟨x, y, hx, hy, hxy⟩ := zipP_get hl
        rw [List.drop_eq_getElem_cons hl, hxy] at q2
        unfold xSearchL at q2
        obtain ⟨v, hv, fv⟩ := k1.2.get hx
        obtain ⟨u, hu, fu⟩ := k2.2.get hy
        refine .inr ⟨⟨xs, ys, v, u, by rw [← hK]; exact k1.sq, by rw [← hK]; exact k2.sq, hv, hu⟩, ?_⟩
        cases eg : g (.tuple [x, y]) env2 with
        | none => rw [eg] at q2; exact q2.elim
        | some env3 =>
          rw [eg] at q2
          dsimp only at q2
          refine ⟨fun σ' H' => m' + (i + 1) = (zipP ds1 ds2).length ∧ ∃ ρ env hs, SRs G ρ₀ H₀ B ρ H' σ' env ∧ Wd G ρ H' hs ∧ Bl G.K ρ H' a1 xs ds1 ∧ Bl G.K ρ H' a2 ys ds2 ∧ OutS G E ρ₀ H₀ B (xSearchL g t m ((zipP ds1 ds2).drop (i + 1)) env hs) D, fun σ' H' h' => ⟨m', Nat.lt_succ_self m', h'⟩, fun z H3 y' => ?_⟩
          obtain ⟨T, x', y'', rfl, hT, rfl, hx', hy'⟩ := y'
          have hx2 := hx' xs (by rw [← hK]; exact k1.sq)
          have hy2 := hy' ys (by rw [← hK]; exact k2.sq)
          rw [hv] at hx2; cases hx2
          rw [hu] at hy2; cases hy2
          have ex : Ext ρ2 H2 ρ2 (upd H2 T (.tup [v, u])) := ext_new hT
          have R3 := R2.ext' ex
          have w3 := w2.new (o := .tup [v, u]) hT
          have k3 := k1.ext ex
          have k4 := k2.ext ex
          have fz : Fz G.K (upd H2 T (.tup [v, u])) (.ref T) (.tuple [x, y]) := .tup (.inl (.inl upd_same)) (.cons (Fz.mono ex.sm fv) (.cons (Fz.mono ex.sm fu) .nil))
          refine ⟨ρ2, env2, .tuple [x, y], env3, R3.sr, fz, eg, fun σ' R' k => ?_⟩
          have R4 := R3.kp R' k
          refine tT_s R4 w3 q2 fun k ρ5 hs5 H5 e5 w5 q5 => ?_
          cases k with
          | true =>
            rw [if_pos rfl] at q5 ⊢
            refine tD_s (R4.ext' e5) w5 q5 fun r ρ6 hs6 H6 e6 w6 q6 v rr => ?_
            exact q6 ρ6 v H6 ((R4.ext' e5).ext.trans e6) w6 (rr_up (R4.ext' e5).ext rr)
          | false =>
            rw [if_neg Bool.false_ne_true] at q5 ⊢
            exact ⟨by omega, ρ5, env3, hs5, R4.ext' e5, w5, k3.ext e5, k4.ext e5, q5⟩
    · cases hz
  · exact q1.elim

/-! ### zip and enumerate of what is locked -/
theorem wkF_zipL {H0 : Hp} {q1 q2 : Addr} {o1 o2 : Obj} {vs us : List V} {ds es : List D} (hK : G.K = X.K) (h1 : H0 q1 = some (.frz o1 (.lst vs))) (h2 : H0 q2 = some (.frz o2 (.lst us))) (f1 : FzA G.K H0 vs ds) (f2 : FzA G.K H0 us es) : WkF G (Itz X.K q1 q2) (zipP ds es) H0 := by
  have sq1 : ∀ H, SmF H0 H → SqL X.K H q1 vs := fun H s => .inl (.inr ⟨o1, s.1 _ _ _ h1⟩)
  have sq2 : ∀ H, SmF H0 H → SqL X.K H q2 us := fun H s => .inl (.inr ⟨o2, s.1 _ _ _ h2⟩)
  have hl2 : (zipP ds es).length = min ds.length es.length := by unfold zipP; rw [List.length_zipWith]
  refine ⟨fun i H s hi => ?_, fun H s => ⟨vs, us, sq1 H s, sq2 H s, by rw [f1.length, f2.length]; omega⟩, fun i H x H' d s hd y => ?_⟩
  · obtain ⟨x, y, hx, hy, _⟩ := zipP_get hi
    obtain ⟨v, e1, _⟩ := f1.get hx
    obtain ⟨u, e2, _⟩ := f2.get hy
    exact ⟨vs, us, v, u, sq1 H s, sq2 H s, e1, e2⟩
  · obtain ⟨T, x', y', rfl, hT, rfl, g1, g2⟩ := y
    obtain ⟨hi, e0⟩ := List.getElem?_eq_some_iff.mp hd
    obtain ⟨a, b, hx, hy, e⟩ := zipP_get hi
    rw [e] at e0; subst e0
    obtain ⟨v, e1, fv⟩ := f1.get hx
    obtain ⟨u, e2, fu⟩ := f2.get hy
    have z1 := g1 vs (sq1 H s)
    have z2 := g2 us (sq2 H s)
    rw [e1] at z1; cases z1
    rw [e2] at z2; cases z2
    have gr := grow_new (o := HO.tup [x', y']) hT
    exact ⟨gr, .tup (.inl (.inl upd_same)) (.cons (Fz.mono (.ofAll (ρ := []) gr) (Fz.monoF s fv)) (.cons (Fz.mono (.ofAll (ρ := []) gr) (Fz.monoF s fu)) .nil))⟩
theorem wkF_zipT {H0 : Hp} {q1 q2 : Addr} {vs us : List V} {ds es : List D} (hK : G.K = X.K) (h1 : SqT G.K H0 q1 vs) (h2 : SqT G.K H0 q2 us) (f1 : FzA G.K H0 vs ds) (f2 : FzA G.K H0 us es) : WkF G (RZ.ItzT X.K q1 q2) (zipP ds es) H0 := by
  have sq1 : ∀ H, SmF H0 H → SqT X.K H q1 vs := fun H s => by rw [← hK]; exact sqT_monoF s h1
  have sq2 : ∀ H, SmF H0 H → SqT X.K H q2 us := fun H s => by rw [← hK]; exact sqT_monoF s h2
  have hl2 : (zipP ds es).length = min ds.length es.length := by unfold zipP; rw [List.length_zipWith]
  refine ⟨fun i H s hi => ?_, fun H s => ⟨vs, us, sq1 H s, sq2 H s, by rw [f1.length, f2.length]; omega⟩, fun i H x H' d s hd y => ?_⟩
  · obtain ⟨x, y, hx, hy, _⟩ := zipP_get hi
    obtain ⟨v, e1, _⟩ := f1.get hx
    obtain ⟨u, e2, _⟩ := f2.get hy
    exact ⟨vs, us, v, u, sq1 H s, sq2 H s, e1, e2⟩
  · obtain ⟨T, x', y', rfl, hT, rfl, g1, g2⟩ := y
    obtain ⟨hi, e0⟩ := List.getElem?_eq_some_iff.mp hd
    obtain ⟨a, b, hx, hy, e⟩ := zipP_get hi
    rw [e] at e0; subst e0
    obtain ⟨v, e1, fv⟩ := f1.get hx
    obtain ⟨u, e2, fu⟩ := f2.get hy
    have z1 := g1 vs (sq1 H s)
    have z2 := g2 us (sq2 H s)
    rw [e1] at z1; cases z1
    rw [e2] at z2; cases z2
    have gr := grow_new (o := HO.tup [x', y']) hT
    exact ⟨gr, .tup (.inl (.inl upd_same)) (.cons (Fz.mono (.ofAll (ρ := []) gr) (Fz.monoF s fv)) (.cons (Fz.mono (.ofAll (ρ := []) gr) (Fz.monoF s fu)) .nil))⟩
theorem FzA.two {K : PySem.W.Frag} {H : Hp} {vs : List V} {d e : D} (h : FzA K H vs [d, e]) : ∃ v w, vs = [v, w] ∧ Fz K H v d ∧ Fz K H w e := by
  cases h with
  | cons r t => cases t with | cons r2 t2 => cases t2; exact ⟨_, _, rfl, r, r2⟩
theorem FzA.one' {K : PySem.W.Frag} {H : Hp} {vs : List V} {d : D} (h : FzA K H vs [d]) : ∃ v, vs = [v] ∧ Fz K H v d := by
  cases h with
  | cons r t => cases t; exact ⟨_, rfl, r⟩
def zipA : List D → Option (List D)
  | [.list ds, .list es] => some (zipP ds es)
  | [.tuple ds, .tuple es] => some (zipP ds es)
  | _ => none
def xItA (f : List D → Option (List D)) (mA : XA) : XA := fun env hs => andThen (mA env hs) fun ds hs1 => liftO (f ds) hs1
theorem tA_seq' {σ : L2.St} {H : Hp} {ρ : List Addr} {env : Envd} {hs : Hs} {β : Type} {f : List D → Hs → Res (β × Hs)} {Qf : β → List Addr → Hs → Hp → Prop} {Q : List V → Hp → Prop} (R : SR G ρ H σ env) (w : Wd G ρ H hs)
    (h : Out G E ρ H (andThen (mA env hs) f) Qf) (k : ∀ ds ρ1 hs1 H1, Ext ρ H ρ1 H1 → Wd G ρ1 H1 hs1 → Out G E ρ1 H1 (f ds hs1) Qf → ∀ vs, FzA G.K H1 vs ds → Q vs H1) : tA G E mA σ H Q := by
  refine ⟨ρ, env, hs, R, w, Out.imp h.seq fun d hs1 ρ1 H1 em e1 w1 q v br => ?_⟩
  exact k d ρ1 hs1 H1 e1 w1 q v br
theorem di_zip {kk : Nat} {tpos pz pz2 : Pos} {elts : List Expr} (hg : Gl X "zip") (hm : X.mg "zip" = none) (ha : DAr X G E [a, b] mA) (hs : starEach [a, b] X.env = (false, eval a X.env) :: starEach [b] X.env := by rfl) (hpl : (backTo pz2 (starEach [b] X.env)).any (·.1) = false := by rfl) :
    DI X G E (.Tuple elts kk tpos) (.Call (.Name "zip" pz) [a, b] [] pz2) (xItA zipA mA) :=
  ⟨ha.hK, PI.less (RZ.pi_zipA hg hm ha.pa hs hpl) fun σ H Q q => by
    obtain ⟨ρ, env, hs, R, w, q⟩ := q
    refine tA_seq' R w q fun ds ρ1 hs1 H1 e1 w1 q1 vs br => ?_
    obtain ⟨r, hr, q2⟩ := out_lift q1
    unfold zipA at hr
    split at hr
    · cases hr
      obtain ⟨v, u, rfl, f1, f2⟩ := br.two
      cases f1 with
      | lst x1 x2 => cases f2 with
        | lst y1 y2 => exact ⟨_, _, _, _, rfl, .inl ⟨.inl (.inr ⟨_, x1⟩), .inl (.inr ⟨_, y1⟩), q2 ρ1 H1 (Ext.refl _ _) w1 _ (wkF_zipL ha.hK x1 y1 x2 y2)⟩⟩
    · cases hr
      obtain ⟨v, u, rfl, f1, f2⟩ := br.two
      cases f1 with
      | tup x1 x2 => cases f2 with
        | tup y1 y2 => exact ⟨_, _, _, _, rfl, .inr ⟨by rw [← ha.hK]; exact x1, by rw [← ha.hK]; exact y1, q2 ρ1 H1 (Ext.refl _ _) w1 _ (wkF_zipT ha.hK x1 y1 x2 y2)⟩⟩
    · cases hr⟩
def enumP (ds : List D) : List D := ds.zipIdx.map fun p => .tuple [.int (p.2 : Nat), p.1]
def enumA : List D → Option (List D)
  | [.list ds] => some (enumP ds)
  | _ => none
theorem wkF_enum {H0 : Hp} {q1 : Addr} {o1 : Obj} {vs : List V} {ds : List D} (h1 : H0 q1 = some (.frz o1 (.lst vs))) (f1 : FzA G.K H0 vs ds) : WkF G (Ite X.K q1) (enumP ds) H0 := by
  have sq1 : ∀ H, SmF H0 H → SqL X.K H q1 vs := fun H s => .inl (.inr ⟨o1, s.1 _ _ _ h1⟩)
  have hl2 : (enumP ds).length = ds.length := by simp [enumP]
  refine ⟨fun i H s hi => ?_, fun H s => ⟨vs, sq1 H s, by rw [f1.length]; omega⟩, fun i H x H' d s hd y => ?_⟩
  · rw [hl2, ← f1.length] at hi
    exact ⟨vs, vs[i], sq1 H s, by simp [hi]⟩
  · obtain ⟨T, x', rfl, hT, rfl, g1⟩ := y
    unfold enumP at hd
    rw [List.getElem?_map, List.getElem?_zipIdx, Option.map_map] at hd
    obtain ⟨e, he, rfl⟩ := Option.map_eq_some_iff.mp hd
    obtain ⟨v, e1, fv⟩ := f1.get he
    have z1 := g1 vs (sq1 H s)
    rw [e1] at z1; cases z1
    have gr := grow_new (o := HO.tup [.int (i : Nat), x']) hT
    refine ⟨gr, .tup (.inl (.inl upd_same)) (.cons ?_ (.cons (Fz.mono (.ofAll (ρ := []) gr) (Fz.monoF s fv)) .nil))⟩
    show Fz _ _ _ (.int ((0 + i : Nat) : Int))
    rw [Nat.zero_add]
    exact .int _
theorem di_enum {kk : Nat} {tpos pz pz2 : Pos} {elts : List Expr} (hg : Gl X "enumerate") (hm : X.mg "enumerate" = none) (ha : DAr X G E [a] mA) (hs : starEach [a] X.env = [(false, eval a X.env)] := by rfl) :
    DI X G E (.Tuple elts kk tpos) (.Call (.Name "enumerate" pz) [a] [] pz2) (xItA enumA mA) :=
  ⟨ha.hK, PI.less (pi_enum hg hm ha.pa hs) fun σ H Q q => by
    obtain ⟨ρ, env, hs, R, w, q⟩ := q
    refine tA_seq' R w q fun ds ρ1 hs1 H1 e1 w1 q1 vs br => ?_
    obtain ⟨r, hr, q2⟩ := out_lift q1
    unfold enumA at hr
    split at hr
    · cases hr
      obtain ⟨v, rfl, f1⟩ := br.one'
      cases f1 with
      | lst x1 x2 => exact ⟨_, _, rfl, .inl (.inr ⟨_, x1⟩), q2 ρ1 H1 (Ext.refl _ _) w1 _ (wkF_enum x1 x2)⟩
    · cases hr⟩
end
end DL
set_option Elab.async false
set_option linter.all false
set_option maxRecDepth 100000
set_option maxHeartbeats 4000000
/-! DZ: from a law's reading to its row. -/
namespace DL
open PySem PySem.Spec PyProof.Rows L2 LamX TL
theorem scr_of {K : PySem.W.Frag} {H : Hp} {a : Addr} {ns : List Int} (hO : Only H) (h : SqL K H a (ns.map V.int)) : ScrL K H a ns := by
  rcases h with (h | ⟨o, h⟩) | h
  · rcases hO a with q | ⟨o, xs, q⟩
    · rw [h] at q; cases q
    · rw [h] at q; cases q
  · exact .inl ⟨o, h⟩
  · exact .inr h
theorem walk_end {l : PySem.W.OpenLaw} {k : Nat} {q : Program} {loose : List Str} {XP : (Str → Option Value) → Heap → Prop} {YP : World → Heap → Prop} {d : DefRec} {K : Params → PySem.W.Frag} {x : Str} {m : XF} {g : PySem.W.Frag → Gx}
    (hn : l.most = some 63) (hdf : d.params.defaults = []) (hr : Room k callerA) (hgK : ∀ K, (g K).K = K) (hgT : ∀ K, (g K).T = []) (hgx : ∀ K c, (g K).xc c = none)
    (hY : ∀ (w : World) (h : Heap), YP w h → (K w.params).In h)
    (F : ∀ (w : World) (mg : Str → Option Value) (fa : Addr) (h : Heap), (K w.params).In h → h.Ns mainGlobals mg → mg d.name = some (.ref fa) →
      ∃ fd : FuncData, (∀ (s : Shared) (u : Value), BindsTo s fd ⟨[u], []⟩ [(x, u)]) ∧
        ∀ base : Heap, (K w.params).In base → base.Ns mainGlobals mg → FnM l.prog w mg base (g (K w.params)) k fa fd [x] m)
    (hm : ∀ ns : List Int, ns.length ≤ 63 → ∃ hs, m [.scr ns] [] = .ok (.dat (.bool true), hs)) :
    PySem.W.WalkO q loose XP YP l.row.toRowW d [] (fun f vs => PySem.call f vs) := by
  refine L2.walk_of (n := 63) (k := k) (x := x) (CX := fun w => L2.CX l.prog w) (sp := fun w => spM (g (K w.params)) 1 m) hn (by decide) hdf hr hY (fun w mg fa h h1 h2 h3 => ?_) (fun w H a ns hl hO hS => ?_) fun w H s e s' ⟨_, _, _, _, _, _, _, _, _, _, _, _, z⟩ => z
  · obtain ⟨fd, b, f⟩ := F w mg fa h h1 h2 h3
    exact ⟨fd, b, fun base h4 h5 => by
      have := f base h4 h5
      unfold FnM at this
      rw [hgK] at this
      exact this⟩
  · obtain ⟨hs, e⟩ := hm ns hl
    refine ⟨rfl, [], [], [.scr ns], .cons ⟨a, rfl, by rw [hgK]; exact scr_of hO hS⟩ .nil, ⟨rfl, .nil, (fun k a ds e _ => by simp at e), by rw [hgT]; exact fun _ z => nomatch z⟩, ?_⟩
    rw [e]
    intro ρ' H' _ _ v rr
    cases (show Fz _ _ v (.bool true) from rr)
    rfl
end DL
set_option Elab.async false
set_option linter.all false
set_option maxRecDepth 100000
set_option maxHeartbeats 4000000
/-! DY: the plain side: what a reading ends in. -/
namespace DL
open PySem L2
/-- it ends well, in Q -/
def W {α : Type} (r : Res α) (Q : α → Prop) : Prop := match r with
  | .ok a => Q a
  | _ => False
theorem W.mono {α : Type} {r : Res α} {Q Q' : α → Prop} (h : W r Q) (i : ∀ a, Q a → Q' a) : W r Q' := by
  cases r with
  | ok a => exact i a h
  | exc c d hs => exact h.elim
  | stuck => exact h.elim
theorem W.out {α : Type} {r : Res α} {Q : α → Prop} (h : W r Q) : ∃ a, r = .ok a ∧ Q a := by
  cases r with
  | ok a => exact ⟨a, rfl, h⟩
  | exc c d hs => exact h.elim
  | stuck => exact h.elim
section
variable {α β : Type} {Q : α → Prop} {hs : Hs} {env : Envd}
@[simp] theorem W_ok {a : α} : W (.ok a) Q = Q a := rfl
@[simp] theorem W_stuck : W (.stuck : Res α) Q = False := rfl
@[simp] theorem W_andThen {o : Res (β × Hs)} {f : β → Hs → Res (α × Hs)} {Q : α × Hs → Prop} : W (andThen o f) Q = W o fun p => W (f p.1 p.2) Q := by cases o <;> rfl
@[simp] theorem W_bindE {o : Res (β × Hs)} {f : β → Hs → Res (Fl × Envd × Hs)} {Q : Fl × Envd × Hs → Prop} : W (bindE o f) Q = W o fun p => W (f p.1 p.2) Q := by cases o <;> rfl
@[simp] theorem W_liftO {o : Option α} {Q : α × Hs → Prop} : W (liftO o hs) Q = match o with | some r => Q (r, hs) | none => False := by cases o <;> rfl
@[simp] theorem W_noX {r : Res α} : W (noX r) Q = W r Q := by cases r <;> rfl
theorem W_ite {c : Prop} [Decidable c] {a b : Res α} : W (if c then a else b) Q = if c then W a Q else W b Q := by split <;> rfl
@[simp] theorem W_xSeq {m1 m2 : XS} {Q : Fl × Envd × Hs → Prop} : W (xSeq m1 m2 env hs) Q = W (m1 env hs) fun p => match p.1 with | .nx => W (m2 p.2.1 p.2.2) Q | _ => Q p := by
  unfold xSeq
  cases m1 env hs with
  | ok a => obtain ⟨f, e, h⟩ := a; cases f <;> rfl
  | exc c d h => rfl
  | stuck => rfl
@[simp] theorem W_fnX {n : Nat} {mb : XS} {rs : List SV} {Q : SV × Hs → Prop} : W (fnX n mb rs hs) Q = W (mb (startE n rs) hs) fun p => match p.1 with | .rt r => Q (r, p.2.2) | .nx => Q (.dat .none, p.2.2) | _ => False := by
  unfold fnX
  cases mb (startE n rs) hs with
  | ok a => obtain ⟨f, e, h⟩ := a; cases f <;> rfl
  | exc c d h => rfl
  | stuck => rfl
@[simp] theorem W_xFz {m : XE} {Q : SV × Hs → Prop} : W (xFz m env hs) Q = W (m env hs) fun p => Q (svF p.1, p.2) := by
  unfold xFz
  cases m env hs <;> rfl
@[simp] theorem W_xBo {m : XE} {Q : D × Hs → Prop} : W (xBo m env hs) Q = W (m env hs) fun p => match svD p.1 with | some d => Q (d, p.2) | none => False := by
  unfold xBo
  cases m env hs with
  | ok a => obtain ⟨r, h⟩ := a; dsimp only [W]; cases svD r <;> rfl
  | exc c d h => rfl
  | stuck => rfl
/-- a while: a measure that falls -/
theorem W_while {t : XB} {mb : XS} {Q : Fl × Envd × Hs → Prop} (J : Nat → Envd → Hs → Prop) (h : ∀ k env hs, J k env hs → W (t env hs) fun p => if p.1 = true then W (mb env p.2) fun p => match p.1 with
      | .nx => ∃ j, j < k ∧ J j p.2.1 p.2.2
      | .ct => ∃ j, j < k ∧ J j p.2.1 p.2.2
      | .bk => Q (.nx, p.2.1, p.2.2)
      | r => Q p else Q (.nx, env, p.2)) : ∀ n k env hs, k < n → J k env hs → W (xWhile t mb n env hs) Q := by
  intro n
  induction n with
  | zero => intro k env hs hk; omega
  | succ n ih =>
    intro k env hs hk j
    have := h k env hs j
    unfold xWhile
    rw [W_bindE]
    refine this.mono fun p hp => ?_
    by_cases hb : p.1 = true
    · rw [if_pos hb] at hp ⊢
      obtain ⟨⟨f, e, h'⟩, e2, q⟩ := hp.out
      rw [e2]
      cases f with
      | nx => obtain ⟨j, j1, j2⟩ := q; exact ih j _ _ (by omega) j2
      | ct => obtain ⟨j, j1, j2⟩ := q; exact ih j _ _ (by omega) j2
      | bk => exact q
      | rt r => exact q
    · rw [if_neg hb] at hp ⊢
      exact hp
/-- a for: an invariant told of the items behind -/
theorem W_forL {g : XG} {mb : XS} {Q : Fl × Envd × Hs → Prop} {dsAll : List D} (J : Nat → Envd → Hs → Prop) (h : ∀ i d env hs, dsAll[i]? = some d → J i env hs → ∃ env1, g d env = some env1 ∧ W (mb env1 hs) fun p => match p.1 with
      | .nx => J (i + 1) p.2.1 p.2.2
      | .ct => J (i + 1) p.2.1 p.2.2
      | .bk => Q (.nx, p.2.1, p.2.2)
      | r => Q p) (he : ∀ env hs, J dsAll.length env hs → Q (.nx, env, hs)) : ∀ ds i env hs, dsAll.drop i = ds → i ≤ dsAll.length → J i env hs → W (xForL g mb ds env hs) Q := by
  intro ds
  induction ds with
  | nil =>
    intro i env hs hd hi j
    have : dsAll.length ≤ i := List.drop_eq_nil_iff.mp hd
    have e : i = dsAll.length := by omega
    subst e
    exact he env hs j
  | cons d r ih =>
    intro i env hs hd hi j
    have hl : i < dsAll.length := by
      have := congrArg List.length hd
      simp at this; omega
    rw [List.drop_eq_getElem_cons hl] at hd
    cases hd
    obtain ⟨env1, e1, e2⟩ := h i dsAll[i] env hs (by simp [hl]) j
    unfold xForL
    rw [e1]
    obtain ⟨⟨f, e, h'⟩, e3, q⟩ := e2.out
    dsimp only
    rw [e3]
    cases f with
    | nx => exact ih (i + 1) _ _ rfl (by omega) q
    | ct => exact ih (i + 1) _ _ rfl (by omega) q
    | bk => exact q
    | rt r => exact q
/-- the items of a comprehension -/
theorem W_lcL {g : XG} {t : XB} {me : XE} {env : Envd} {dsAll : List D} (J : Hs → Prop) (P : D → Prop) (h : ∀ d hs, d ∈ dsAll → J hs → ∃ env1, g d env = some env1 ∧ W (t env1 hs) fun p => if p.1 = true then W (me env1 p.2) fun p => ∃ d', p.1 = .dat d' ∧ P d' ∧ J p.2 else J p.2) :
    ∀ ds n hs, (∀ d ∈ ds, d ∈ dsAll) → n + ds.length ≤ sizeLine → J hs → W (lcL g t me env ds n hs) fun p => (∀ d ∈ p.1, P d) ∧ p.1.length ≤ ds.length ∧ J p.2 := by
  intro ds
  induction ds with
  | nil => intro n hs _ _ j; exact ⟨(fun d hd => by cases hd), Nat.le_refl _, j⟩
  | cons d r ih =>
    intro n hs hsub hn j
    obtain ⟨env1, e1, e2⟩ := h d hs (hsub d List.mem_cons_self) j
    unfold lcL
    rw [e1]
    simp only [List.length_cons] at hn
    dsimp only
    rw [W_andThen, W_noX]
    refine e2.mono fun p hp => ?_
    by_cases hb : p.1 = true
    · rw [if_pos hb] at hp ⊢
      rw [W_andThen, W_noX]
      refine hp.mono fun p2 ⟨d', x1, x2, x3⟩ => ?_
      rw [x1]
      dsimp only
      rw [if_pos (by omega), W_andThen]
      refine (ih (n + 1) _ (fun d hd => hsub d (List.mem_cons_of_mem _ hd)) (by omega) x3).mono fun p3 ⟨y1, y2, y3⟩ => ⟨fun d hd => ?_, by simp only [List.length_cons]; omega, y3⟩
      rcases List.mem_cons.mp hd with rfl | hd
      · exact x2
      · exact y1 d hd
    · rw [if_neg hb] at hp ⊢
      exact (ih n _ (fun d hd => hsub d (List.mem_cons_of_mem _ hd)) (by omega) hp).mono fun p3 ⟨y1, y2, y3⟩ => ⟨y1, by simp only [List.length_cons]; omega, y3⟩
/-- the items of a comprehension without if, one for one -/
theorem W_lcL1 {g : XG} {me : XE} {env : Envd} (J : Hs → Prop) (f : D → D) : ∀ (ds : List D) (n : Nat) (hs : Hs), (∀ d hs, d ∈ ds → J hs → ∃ env1, g d env = some env1 ∧ W (me env1 hs) fun p => p.1 = .dat (f d) ∧ J p.2) → n + ds.length ≤ sizeLine → J hs →
    W (lcL g xYes me env ds n hs) fun p => p.1 = ds.map f ∧ J p.2 := by
  intro ds
  induction ds with
  | nil => intro n hs _ _ j; exact ⟨rfl, j⟩
  | cons d r ih =>
    intro n hs h hn j
    obtain ⟨env1, e1, e2⟩ := h d hs List.mem_cons_self j
    unfold lcL
    rw [e1]
    simp only [List.length_cons] at hn
    dsimp only [xYes]
    rw [W_andThen, W_noX, W_ok]
    dsimp only
    rw [if_pos rfl, W_andThen, W_noX]
    refine e2.mono fun p2 ⟨x1, x3⟩ => ?_
    rw [x1]
    dsimp only
    rw [if_pos (by omega), W_andThen]
    exact (ih (n + 1) _ (fun d hs hd => h d hs (List.mem_cons_of_mem _ hd)) (by omega) x3).mono fun p3 ⟨y1, y3⟩ => ⟨by rw [y1]; rfl, y3⟩
end
theorem log_lt {i : Int} {k : Nat} (h : i.natAbs < 2 ^ k) : i.natAbs.log2 < k + 1 := by
  by_cases h0 : i.natAbs = 0
  · rw [h0]; simp
  · have := (Nat.log2_lt h0).mpr h
    omega
theorem mulD_ok {i j : Int} (hi : i.natAbs < 2 ^ 2000) (hj : j.natAbs < 2 ^ 2000) : mulD (.int i) (.int j) = some (.dat (.int (i * j))) := by
  unfold mulD
  have := log_lt hi
  have := log_lt hj
  dsimp only
  rw [if_pos (by omega)]
theorem fdivD_ok {i j : Int} (h0 : 0 < j) (hj : j.natAbs < 2 ^ 2000) : fdivD (.int i) (.int j) = some (.dat (.int (i / j))) := by
  unfold fdivD
  have := log_lt hj
  dsimp only
  rw [if_pos ⟨h0, by omega⟩]
theorem modD_ok {i j : Int} (h0 : 0 < j) : modD (.int i) (.int j) = some (.dat (.int (i % j))) := by
  unfold modD
  dsimp only
  rw [if_pos h0]
@[simp] theorem u_xVar (i : Nat) {env : Envd} {hs : Hs} : xVar i env hs = match env[i]?.join with
  | some (.dat d) => .ok (.dat d, hs)
  | some (.cell k) => .ok (.cell k, hs)
  | some (.scr ns) => .ok (.scr ns, hs)
  | _ => .stuck := rfl
@[simp] theorem u_xVarB (i : Nat) {env : Envd} {hs : Hs} : xVarB i env hs = match env[i]?.join with
  | some (.dat d) => .ok (d, hs)
  | some (.own ds) => .ok (.list ds, hs)
  | _ => .stuck := rfl
@[simp] theorem u_xC (d : D) {u_env : Envd} {hs : Hs} : xC d u_env hs = .ok (.dat d, hs) := rfl
@[simp] theorem u_xSet (i : Nat) (m : XE) {env : Envd} {hs : Hs} : xSet i m env hs = bindE (m env hs) fun r hs1 => .ok (.nx, env.set i (some r), hs1) := rfl
@[simp] theorem u_xRet (m : XE) {env : Envd} {hs : Hs} : xRet m env hs = bindE (m env hs) fun r hs1 => .ok (.rt r, env, hs1) := rfl
@[simp] theorem u_xRetOwn (i : Nat) {env : Envd} {hs : Hs} : xRetOwn i env hs = match env[i]?.join with
  | some r => .ok (.rt r, env, hs)
  | none => .stuck := rfl
@[simp] theorem u_xBin (g : Op2) (ma mb : XD) {env : Envd} {hs : Hs} : xBin g ma mb env hs = andThen (ma env hs) fun d hs1 => andThen (mb env hs1) fun e hs2 => liftO (g d e) hs2 := rfl
@[simp] theorem u_xCellIx (i : Nat) (mb : XD) {env : Envd} {hs : Hs} : xCellIx i mb env hs = match env[i]?.join with
  | some (.cell k) => andThen (mb env hs) fun e hs1 => match e, hs1[k]? with
    | .int j, some ds => match atI ds j with
      | some d => .ok (.dat d, hs1)
      | none => .stuck
    | _, _ => .stuck
  | _ => .stuck := rfl
@[simp] theorem u_xCellSet (i : Nat) (mb : XD) (m : XE) {env : Envd} {hs : Hs} : xCellSet i mb m env hs = bindE (m env hs) fun r hs1 => match env[i]?.join, r with
  | some (.cell k), .dat d => bindE (mb env hs1) fun e hs2 => match e, hs2[k]? with
    | .int j, some ds => match ixN ds.length j with
      | some n => .ok (.nx, env, hs2.set k (ds.set n d))
      | none => .stuck
    | _, _ => .stuck
  | _, _ => .stuck := rfl
@[simp] theorem u_xTst (m : XE) {env : Envd} {hs : Hs} : xTst m env hs = andThen (m env hs) fun r hs1 => liftO (asB r) hs1 := rfl
@[simp] theorem u_xIfS (t : XB) (m1 m2 : XS) {env : Envd} {hs : Hs} : xIfS t m1 m2 env hs = bindE (t env hs) fun k hs1 => if k = true then m1 env hs1 else m2 env hs1 := rfl
@[simp] theorem u_xNext {env : Envd} {hs : Hs} : xNext  env hs = .ok (.nx, env, hs) := rfl
@[simp] theorem u_xFn (mf : XF) (dvs : List SV) (mA : XAs) {env : Envd} {hs : Hs} : xFn mf dvs mA env hs = andThen (mA env hs) fun rs hs1 => mf (rs ++ dvs) hs1 := rfl
@[simp] theorem u_xConsS (m : XE) (r : XAs) {env : Envd} {hs : Hs} : xConsS m r env hs = andThen (m env hs) fun d hs1 => andThen (liftO (asA d) hs1) fun d hs1 => andThen (r env hs1) fun ds hs2 => .ok (d :: ds, hs2) := rfl
@[simp] theorem u_xNilS {u_env : Envd} {hs : Hs} : xNilS  u_env hs = .ok ([], hs) := rfl
@[simp] theorem u_xCons (m : XE) (r : XA) {env : Envd} {hs : Hs} : xCons m r env hs = andThen (m env hs) fun d hs1 => andThen (liftO (asD d) hs1) fun d hs1 => andThen (r env hs1) fun ds hs2 => .ok (d :: ds, hs2) := rfl
@[simp] theorem u_xNil {u_env : Envd} {hs : Hs} : xNil  u_env hs = .ok ([], hs) := rfl
@[simp] theorem u_xConsB (m : XD) (r : XA) {env : Envd} {hs : Hs} : xConsB m r env hs = andThen (m env hs) fun d hs1 => andThen (r env hs1) fun ds hs2 => .ok (d :: ds, hs2) := rfl
@[simp] theorem u_xTup (mA : XA) {env : Envd} {hs : Hs} : xTup mA env hs = andThen (mA env hs) fun ds hs1 => if ds.length ≤ sizeLine then .ok (.dat (.tuple ds), hs1) else .stuck := rfl
@[simp] theorem u_xLst (mA : XA) {env : Envd} {hs : Hs} : xLst mA env hs = andThen (mA env hs) fun ds hs1 => if ds.length ≤ sizeLine then .ok (.own ds, hs1) else .stuck := rfl
@[simp] theorem u_xCal (g : Opn) (mA : XA) {env : Envd} {hs : Hs} : xCal g mA env hs = andThen (mA env hs) fun ds hs1 => liftO (g ds) hs1 := rfl
@[simp] theorem u_xNot (t : XB) {env : Envd} {hs : Hs} : xNot t env hs = andThen (t env hs) fun k hs1 => .ok (!k, hs1) := rfl
@[simp] theorem u_xAnd (t u : XB) {env : Envd} {hs : Hs} : xAnd t u env hs = andThen (t env hs) fun k hs1 => if k = true then u env hs1 else .ok (false, hs1) := rfl
@[simp] theorem u_xOr (t u : XB) {env : Envd} {hs : Hs} : xOr t u env hs = andThen (t env hs) fun k hs1 => if k = true then .ok (true, hs1) else u env hs1 := rfl
@[simp] theorem u_xIf (t : XB) (m m' : XE) {env : Envd} {hs : Hs} : xIf t m m' env hs = andThen (t env hs) fun k hs1 => if k = true then m env hs1 else m' env hs1 := rfl
@[simp] theorem u_xIsN (neg : Bool) (ma : XD) {env : Envd} {hs : Hs} : xIsN neg ma env hs = andThen (ma env hs) fun d hs1 => .ok (.dat (.bool (isNo d ^^ neg)), hs1) := rfl
@[simp] theorem u_xCh2 (g g' : Op2) (ma mb mc : XD) {env : Envd} {hs : Hs} : xCh2 g g' ma mb mc env hs = andThen (ma env hs) fun d hs1 => andThen (mb env hs1) fun e hs2 => andThen (liftO ((g d e).bind asB) hs2) fun k hs3 =>
  if k = true then andThen (mc env hs3) fun f hs4 => liftO (g' e f) hs4 else .ok (.dat (.bool false), hs3) := rfl
@[simp] theorem u_xDrop (m : XE) {env : Envd} {hs : Hs} : xDrop m env hs = bindE (m env hs) fun _ hs1 => .ok (.nx, env, hs1) := rfl
@[simp] theorem u_xM1 (g : Op2) (ma mb : XD) {env : Envd} {hs : Hs} : xM1 g ma mb env hs = andThen (ma env hs) fun d hs1 => match d with
  | .str x => andThen (mb env hs1) fun e hs2 => liftO (g (.str x) e) hs2
  | _ => .stuck := rfl
@[simp] theorem u_xSlice (ma : XD) (ml mh : XO) {env : Envd} {hs : Hs} : xSlice ma ml mh env hs = andThen (ma env hs) fun d hs1 => andThen (ml env hs1) fun lo hs2 => andThen (mh env hs2) fun hi hs3 => liftO (sliceD d lo hi) hs3 := rfl
@[simp] theorem u_xPart (m : XD) {env : Envd} {hs : Hs} : xPart m env hs = andThen (m env hs) fun d hs1 => match d with
  | .int i => .ok (some i, hs1)
  | _ => .stuck := rfl
@[simp] theorem u_xNoP {u_env : Envd} {hs : Hs} : xNoP  u_env hs = .ok (none, hs) := rfl
@[simp] theorem u_xRange (g : List D → Option (List D)) (mA : XA) {env : Envd} {hs : Hs} : xRange g mA env hs = andThen (mA env hs) fun ds hs1 => liftO (g ds) hs1 := rfl
@[simp] theorem u_xIter (m : XE) {env : Envd} {hs : Hs} : xIter m env hs = andThen (m env hs) fun r hs1 => liftO (itemsD r) hs1 := rfl
@[simp] theorem u_xLc (mi : XA) (g : XG) (t : XB) (me : XE) (vs : List Nat) {env : Envd} {hs : Hs} : xLc mi g t me vs env hs = andThen (mi env hs) fun ds hs1 => andThen (noX (lcL g t me (wipeE env vs) ds 0 hs1)) fun acc hs2 => .ok (.own acc, hs2) := rfl
@[simp] theorem u_xFor (mi : XA) (g : XG) (mb : XS) {env : Envd} {hs : Hs} : xFor mi g mb env hs = bindE (mi env hs) fun ds hs1 => xForL g mb ds env hs1 := rfl
@[simp] theorem u_xAug (i : Nat) (g : Op2) (mb : XD) {env : Envd} {hs : Hs} : xAug i g mb env hs = match env[i]?.join with
  | some (.dat d) => bindE (mb env hs) fun e hs1 => match g d e with
    | some (.dat r) => .ok (.nx, env.set i (some (.dat r)), hs1)
    | _ => .stuck
  | _ => .stuck := rfl
@[simp] theorem u_xApp (i : Nat) (m : XE) {env : Envd} {hs : Hs} : xApp i m env hs = match env[i]?.join with
  | some (.own ds) => bindE (m env hs) fun r hs1 => match r with
    | .dat d => if ds.length < sizeLine then .ok (.nx, env.set i (some (.own (ds ++ [d]))), hs1) else .stuck
    | _ => .stuck
  | _ => .stuck := rfl
@[simp] theorem u_xScrLen (i : Nat) {env : Envd} {hs : Hs} : xScrLen i env hs = match env[i]?.join with
  | some (.scr ns) => .ok (.dat (.int ns.length), hs)
  | _ => .stuck := rfl
@[simp] theorem u_xScrIx (i : Nat) (mb : XD) {env : Envd} {hs : Hs} : xScrIx i mb env hs = match env[i]?.join with
  | some (.scr ns) => andThen (mb env hs) fun e hs1 => match e with
    | .int j => match atI ns j with
      | some n => .ok (.dat (.int n), hs1)
      | none => .stuck
    | _ => .stuck
  | _ => .stuck := rfl
@[simp] theorem u_xIsi (f : D → Bool) (ma : XD) {env : Envd} {hs : Hs} : xIsi f ma env hs = andThen (ma env hs) fun d hs1 => .ok (.dat (.bool (f d)), hs1) := rfl
@[simp] theorem u_xFrz (i : Nat) (m : XS) {env : Envd} {hs : Hs} : xFrz i m env hs = m (envF env i) hs := rfl
@[simp] theorem u_xRetCell (mA : XA) {env : Envd} {hs : Hs} : xRetCell mA env hs = bindE (mA env hs) fun ds hs1 => if ds.length ≤ sizeLine then .ok (.rt (.cell hs1.length), env, hs1 ++ [ds]) else .stuck := rfl
@[simp] theorem u_xAsg (g : XG) (m : XE) {env : Envd} {hs : Hs} : xAsg g m env hs = bindE (m env hs) fun r hs1 => match r with
  | .dat d => match g d env with
    | some env' => .ok (.nx, env', hs1)
    | none => .stuck
  | _ => .stuck := rfl
@[simp] theorem u_gNm (i : Nat) {d : D} {env : Envd} : gNm i d env = some (env.set i (some (.dat d))) := rfl
@[simp] theorem u_gTu (gs : XGs) (n : Nat) {d : D} {env : Envd} : gTu gs n d env = match d with
  | .tuple ds => if ds.length = n then gs ds env else none
  | _ => none := rfl
@[simp] theorem u_gsCons (g : XG) (gs : XGs) {ds : List D} {env : Envd} : gsCons g gs ds env = match ds with
  | d :: r => (g d env).bind fun env1 => gs r env1
  | [] => none := rfl
@[simp] theorem u_gsNil {ds : List D} {env : Envd} : gsNil  ds env = match ds with
  | [] => some env
  | _ => none := rfl
@[simp] theorem u_xSortedLen (ma : XD) {env : Envd} {hs : Hs} : xSortedLen ma env hs = andThen (ma env hs) fun d hs1 => match d with
  | .list ds => liftO (sortedLenD ds) hs1
  | _ => .stuck := rfl
@[simp] theorem u_xSearchZip (mA : XA) (g : XG) (t : XB) (m : XE) {env : Envd} {hs : Hs} : xSearchZip mA g t m env hs = bindE (mA env hs) fun ds hs1 => match zipD ds with
  | some ps => xSearchL g t m ps env hs1
  | none => .stuck := rfl
@[simp] theorem u_xYes {u_env : Envd} {hs : Hs} : xYes  u_env hs = .ok (true, hs) := rfl
@[simp] theorem u_asD (r : SV) : asD r =  match r with
  | .dat d => some d
  | _ => none := rfl
@[simp] theorem u_asA (r : SV) : asA r =  match r with
  | .own _ => none
  | r => some r := rfl
@[simp] theorem u_asB (r : SV) : asB r =  match r with
  | .dat (.bool b) => some b
  | _ => none := rfl
@[simp] theorem u_svD (x : SV) : svD x = (match x with
  | .dat d => some d
  | .own ds => some (.list ds)
  | .cell _ => none
  | .scr _ => none : Option D) := rfl
@[simp] theorem u_svF (x : SV) : svF x = (match x with
  | .own ds => .dat (.list ds)
  | r => r : SV) := rfl
@[simp] theorem u_addD (x y : D) : addD x y = (match x, y with
  | .int i, .int j => some (.dat (.int (i + j)))
  | .str x, .str y => if x.length + y.length ≤ sizeLine then some (.dat (.str (x ++ y))) else none
  | .list xs, .list ys => if xs.length + ys.length ≤ sizeLine then some (.own (xs ++ ys)) else none
  | .tuple xs, .tuple ys => if xs.length + ys.length ≤ sizeLine then some (.dat (.tuple (xs ++ ys))) else none
  | _, _ => none : Option SV) := rfl
@[simp] theorem u_subD (x y : D) : subD x y = (match x, y with
  | .int i, .int j => some (.dat (.int (i - j)))
  | _, _ => none : Option SV) := rfl
@[simp] theorem u_ltD (x y : D) : ltD x y = (match x, y with
  | .int i, .int j => okB (decide (i < j))
  | .str x, .str y => okB (decide (x.cps.toList < y.cps.toList))
  | _, _ => none : Option SV) := rfl
@[simp] theorem u_gtD (x y : D) : gtD x y = (match x, y with
  | .int i, .int j => okB (decide (j < i))
  | .str x, .str y => okB (decide (y.cps.toList < x.cps.toList))
  | _, _ => none : Option SV) := rfl
@[simp] theorem u_leD (x y : D) : leD x y = (match x, y with
  | .int i, .int j => okB (decide (i ≤ j))
  | _, _ => none : Option SV) := rfl
@[simp] theorem u_geD (x y : D) : geD x y = (match x, y with
  | .int i, .int j => okB (decide (j ≤ i))
  | _, _ => none : Option SV) := rfl
@[simp] theorem u_okB (b : Bool) : okB b =  some (.dat (.bool b)) := rfl
@[simp] theorem u_addI (x y : D) : addI x y = (match x, y with
  | .int i, .int j => some (.dat (.int (i + j)))
  | _, _ => none : Option SV) := rfl
@[simp] theorem u_lenD (x : List D) : lenD x = (match x with
  | [.list ds] => some (.dat (.int ds.length))
  | [.tuple ds] => some (.dat (.int ds.length))
  | [.str x] => if x.length ≤ sizeLine then some (.dat (.int x.length)) else none
  | _ => none : Option SV) := rfl
end DL
set_option Elab.async false
set_option linter.all false
set_option maxRecDepth 100000
namespace K02
open PySem PySem.Spec PyProof.Rows L2 LamX TL DL
abbrev fuel : Nat := 100000
abbrev topS (i : Nat) : Stmt := PySem.Challenge.pw_lookdue_k02_paths_in_order.main.body.getD i (.Pass ⟨0, 0, 0, 0⟩)
structure Txt (K : PySem.W.Frag) (mg : Str → Option Value) (a : Nat → Addr) (fd : Nat → FuncData) : Prop where
  n_int : mg "int" = none
  n_isinstance : mg "isinstance" = none
  n_len : mg "len" = none
  n_list : mg "list" = none
  n_max : mg "max" = none
  n_min : mg "min" = none
  n_range : mg "range" = none
  n_sorted : mg "sorted" = none
  n_zip : mg "zip" = none
  g1 : mg "path_key" = some (.ref (a 1))
  k1 : PySem.W.keepIn K (.ref (a 1)) = true
  b1 : L2.Binds K (fd 1) ["path"] []
  g2 : mg "in_order" = some (.ref (a 2))
  k2 : PySem.W.keepIn K (.ref (a 2)) = true
  b2 : L2.Binds K (fd 2) ["paths"] []
  g4 : mg "_law_draws" = some (.ref (a 4))
  k4 : PySem.W.keepIn K (.ref (a 4)) = true
  b4 : L2.Binds K (fd 4) ["_law_script", "_law_k"] []
  g5 : mg "_law_draw" = some (.ref (a 5))
  k5 : PySem.W.keepIn K (.ref (a 5)) = true
  b5 : L2.Binds K (fd 5) ["_law_draws_here", "_law_many"] []
  g6 : mg "_law_signs" = some (.ref (a 6))
  k6 : PySem.W.keepIn K (.ref (a 6)) = true
  b6 : L2.Binds K (fd 6) [] []
  g7 : mg "_law_few_signs" = some (.ref (a 7))
  k7 : PySem.W.keepIn K (.ref (a 7)) = true
  b7 : L2.Binds K (fd 7) ["_law_draws_here"] []
  g8 : mg "_law_of" = some (.ref (a 8))
  k8 : PySem.W.keepIn K (.ref (a 8)) = true
  b8 : L2.Binds K (fd 8) ["_law_draws_here", "_law_some"] []
  g9 : mg "_law_part" = some (.ref (a 9))
  k9 : PySem.W.keepIn K (.ref (a 9)) = true
  b9 : L2.Binds K (fd 9) ["_law_draws_here", "_law_signs_here"] []
  g10 : mg "_law_path" = some (.ref (a 10))
  k10 : PySem.W.keepIn K (.ref (a 10)) = true
  b10 : L2.Binds K (fd 10) ["_law_draws_here", "_law_signs_here"] []
  g11 : mg "law" = some (.ref (a 11))
  k11 : PySem.W.keepIn K (.ref (a 11)) = true
  b11 : L2.Binds K (fd 11) ["_law_script"] []
abbrev s1 : Stmt := topS 1
abbrev N1 : List Str := ["path"]
theorem sc1 : FnScope N1 ["path"] (defScope s1) := ⟨rfl, rfl, rfl, by decide +kernel, rfl, by decide +kernel, by decide +kernel⟩
def m_path_key : XF := fnX 1 (xRet (xTup (xCons (xFz (xCal lenD (xConsB (xVarB 0) xNil))) (xCons (xVar 0) xNil))))
set_option maxHeartbeats 4000000 in
theorem ok1 {P : Program} {w : World} {mg : Str → Option Value} {base : Heap} {G : Gx} {a : Nat → Addr} {fd : Nat → FuncData} (F0 : Fun G.K "path_key" "path_key" s1 (a 1) (fd 1)) (T : Txt G.K mg a fd) : FnM P w mg base G 1 (a 1) (fd 1) ["path"] m_path_key :=
  fnM_ok F0 sc1 fun cdv A outer s H E ρ₀ B hr hC hP => by
  have hu := hr.units
  have hu80 := (by have := hr.un; omega : (A.deeper (envOfC "path_key" (defScope s1) s.heap.objs.size (a 1) cdv)).units + 80 < cLine)
  exact (dss_one (ds_ret (de_tup (da_cons (de_fz (de_callB cb_len rfl T.n_len (by decide +kernel) (dab_cons (db_var 0) dab_nil))) (da_cons (de_var 0) da_nil)))))
abbrev s2 : Stmt := topS 2
abbrev N2 : List Str := ["paths"]
theorem sc2 : FnScope N2 ["paths"] (defScope s2) := ⟨rfl, rfl, rfl, by decide +kernel, rfl, by decide +kernel, by decide +kernel⟩
def m_in_order : XF := fnX 1 (xRet (xSortedLen (xVarB 0)))
set_option maxHeartbeats 4000000 in
theorem ok2 {P : Program} {w : World} {mg : Str → Option Value} {base : Heap} {G : Gx} {a : Nat → Addr} {fd : Nat → FuncData} (F0 : Fun G.K "in_order" "in_order" s2 (a 2) (fd 2)) (T : Txt G.K mg a fd) (K_path_key : Fun G.K "path_key" "path_key" (topS 1) (a 1) (fd 1)) : FnM P w mg base G 1 (a 2) (fd 2) ["paths"] m_in_order :=
  fnM_ok F0 sc2 fun cdv A outer s H E ρ₀ B hr hC hP => by
  have hu := hr.units
  have hu80 := (by have := hr.un; omega : (A.deeper (envOfC "in_order" (defScope s2) s.heap.objs.size (a 2) cdv)).units + 80 < cLine)
  have hdp := (by have := hr.dp; omega : (A.deeper (envOfC "in_order" (defScope s2) s.heap.objs.size (a 2) cdv)).depth + 4 < recursionLimit)
  exact (dss_one (ds_ret (de_sortedLen (fun M => key_def M K_path_key T.b1 rfl T.n_len rfl rfl rfl rfl rfl (by decide)) hu80 hdp rfl T.n_sorted (by decide +kernel) rfl T.g1 (db_var 0))))
abbrev s4 : Stmt := topS 4
abbrev N4 : List Str := ["_law_script", "_law_k", "_law_cell"]
theorem sc4 : FnScope N4 ["_law_script", "_law_k"] (defScope s4) := ⟨rfl, rfl, rfl, by decide +kernel, rfl, by decide +kernel, by decide +kernel⟩
def m_law_draws : XF := fnX 3 (xSeq (xSet 2 (xBin mulD (xBo (xC (.int 15485863))) (xVarB 1)))
  (xSeq (xIfS (xTst (xBin ltD (xVarB 1) (xBo (xScrLen 0))))
  (xSet 2 (xBin modD (xBo (xScrIx 0 (xVarB 1))) (xBo (xBin mulD (xBo (xBin mulD (xBo (xBin mulD (xBo (xBin mulD (xBo (xBin powD (xBo (xC (.int 10))) (xBo (xC (.int 60))))) (xBo (xBin powD (xBo (xC (.int 10))) (xBo (xC (.int 60))))))) (xBo (xBin powD (xBo (xC (.int 10))) (xBo (xC (.int 60))))))) (xBo (xBin powD (xBo (xC (.int 10))) (xBo (xC (.int 60))))))) (xBo (xBin powD (xBo (xC (.int 10))) (xBo (xC (.int 60)))))))))
  (xIfS (xTst (xBin gtD (xBo (xScrLen 0)) (xBo (xC (.int 0)))))
  (xSet 2 (xBin addD (xBo (xBin modD (xBo (xScrIx 0 (xBo (xBin modD (xVarB 1) (xBo (xScrLen 0)))))) (xBo (xBin powD (xBo (xC (.int 10))) (xBo (xC (.int 15))))))) (xBo (xBin mulD (xBo (xC (.int 15485863))) (xVarB 1)))))
  xNext))
  (xRetCell (xCons (xFz (xBin mulD (xVarB 2) (xBo (xCal intD (xConsB (xBo (xBin geD (xVarB 2) (xBo (xBin powD (xBo (xC (.int 10))) (xBo (xC (.int 18))))))) xNil))))) (xCons (xFz (xBin addD (xBo (xC (.int 1))) (xBo (xBin modD (xBo (xBin addD (xBo (xBin mulD (xVarB 2) (xBo (xC (.int 69621))))) (xBo (xBin mulD (xBo (xC (.int 86028121))) (xBo (xBin addD (xVarB 1) (xBo (xC (.int 1))))))))) (xBo (xC (.int 2147483646))))))) xNil)))))
set_option maxHeartbeats 4000000 in
theorem ok4 {P : Program} {w : World} {mg : Str → Option Value} {base : Heap} {G : Gx} {a : Nat → Addr} {fd : Nat → FuncData} (F0 : Fun G.K "_law_draws" "_law_draws" s4 (a 4) (fd 4)) (T : Txt G.K mg a fd) : FnM P w mg base G 1 (a 4) (fd 4) ["_law_script", "_law_k"] m_law_draws :=
  fnM_ok F0 sc4 fun cdv A outer s H E ρ₀ B hr hC hP => by
  have hu := hr.units
  have hu80 := (by have := hr.un; omega : (A.deeper (envOfC "_law_draws" (defScope s4) s.heap.objs.size (a 4) cdv)).units + 80 < cLine)
  exact (dss_cons (ds_set 2 hC (de_bin ob_mul (db_of de_int) (db_var 1)))
  (dss_cons (ds_if (dt_cmp ob_lt (db_var 1) (db_of (de_scrLen 0 rfl T.n_len PySem.boot_len)))
  (dss_one (ds_set 2 hC (de_bin ob_mod (db_of (de_scrIx 0 (db_var 1))) (db_of (de_bin ob_mul (db_of (de_bin ob_mul (db_of (de_bin ob_mul (db_of (de_bin ob_mul (db_of (de_bin ob_pow (db_of de_int) (db_of de_int))) (db_of (de_bin ob_pow (db_of de_int) (db_of de_int))))) (db_of (de_bin ob_pow (db_of de_int) (db_of de_int))))) (db_of (de_bin ob_pow (db_of de_int) (db_of de_int))))) (db_of (de_bin ob_pow (db_of de_int) (db_of de_int))))))))
  (dss_one (ds_if (dt_cmp ob_gt (db_of (de_scrLen 0 rfl T.n_len PySem.boot_len)) (db_of de_int))
  (dss_one (ds_set 2 hC (de_bin ob_add (db_of (de_bin ob_mod (db_of (de_scrIx 0 (db_of (de_bin ob_mod (db_var 1) (db_of (de_scrLen 0 rfl T.n_len PySem.boot_len)))))) (db_of (de_bin ob_pow (db_of de_int) (db_of de_int))))) (db_of (de_bin ob_mul (db_of de_int) (db_var 1))))))
  dss_nil)))
  (dss_one (ds_retCell (da_cons (de_fz (de_bin ob_mul (db_var 2) (db_of (de_callTy cb_int rfl T.n_int (by decide +kernel) (dab_cons (db_of (de_cmp ob_ge (db_var 2) (db_of (de_bin ob_pow (db_of de_int) (db_of de_int))))) dab_nil))))) (da_cons (de_fz (de_bin ob_add (db_of de_int) (db_of (de_bin ob_mod (db_of (de_bin ob_add (db_of (de_bin ob_mul (db_var 2) (db_of de_int))) (db_of (de_bin ob_mul (db_of de_int) (db_of (de_bin ob_add (db_var 1) (db_of de_int))))))) (db_of de_int))))) da_nil))))))
abbrev s5 : Stmt := topS 5
abbrev N5 : List Str := ["_law_draws_here", "_law_many", "_law_found", "_law_wide"]
theorem sc5 : FnScope N5 ["_law_draws_here", "_law_many"] (defScope s5) := ⟨rfl, rfl, rfl, by decide +kernel, rfl, by decide +kernel, by decide +kernel⟩
def m_law_draw : XF := fnX 4 (xSeq (xIfS (xTst (xBin gtD (xBo (xCellIx 0 (xBo (xC (.int 0))))) (xBo (xC (.int 0)))))
  (xSeq (xSet 2 (xBin modD (xBo (xCellIx 0 (xBo (xC (.int 0))))) (xVarB 1)))
  (xSeq (xCellSet 0 (xBo (xC (.int 0))) (xFz (xBin fdivD (xBo (xCellIx 0 (xBo (xC (.int 0))))) (xVarB 1))))
  (xRetOwn 2)))
  xNext)
  (xSeq (xSet 2 (xC (.int 0)))
  (xSeq (xSet 3 (xC (.int 1)))
  (xSeq (xWhile (xTst (xBin ltD (xVarB 3) (xVarB 1)))
  (xSeq (xCellSet 0 (xBo (xC (.int 1))) (xFz (xBin modD (xBo (xBin mulD (xBo (xCellIx 0 (xBo (xC (.int 1))))) (xBo (xC (.int 69621))))) (xBo (xC (.int 2147483647))))))
  (xSeq (xSet 2 (xBin addD (xBo (xBin mulD (xVarB 2) (xBo (xC (.int 268435456))))) (xBo (xBin fdivD (xBo (xBin modD (xBo (xBin mulD (xBo (xCellIx 0 (xBo (xC (.int 1))))) (xBo (xBin addD (xBo (xBin fdivD (xBo (xCellIx 0 (xBo (xC (.int 1))))) (xBo (xC (.int 128))))) (xBo (xC (.int 3))))))) (xBo (xC (.int 2147483629))))) (xBo (xC (.int 8)))))))
  (xSet 3 (xBin mulD (xVarB 3) (xBo (xC (.int 268435456))))))) fuel)
  (xRet (xBin modD (xVarB 2) (xVarB 1)))))))
set_option maxHeartbeats 4000000 in
theorem ok5 {P : Program} {w : World} {mg : Str → Option Value} {base : Heap} {G : Gx} {a : Nat → Addr} {fd : Nat → FuncData} (F0 : Fun G.K "_law_draw" "_law_draw" s5 (a 5) (fd 5)) (T : Txt G.K mg a fd) : FnM P w mg base G 1 (a 5) (fd 5) ["_law_draws_here", "_law_many"] m_law_draw :=
  fnM_ok F0 sc5 fun cdv A outer s H E ρ₀ B hr hC hP => by
  have hu := hr.units
  have hu80 := (by have := hr.un; omega : (A.deeper (envOfC "_law_draw" (defScope s5) s.heap.objs.size (a 5) cdv)).units + 80 < cLine)
  exact (dss_cons (ds_if (dt_cmp ob_gt (db_of (de_cellIx 0 (db_of de_int))) (db_of de_int))
  (dss_cons (ds_set 2 hC (de_bin ob_mod (db_of (de_cellIx 0 (db_of de_int))) (db_var 1)))
  (dss_cons (ds_cellSet 0 (de_fz (de_bin ob_fdiv (db_of (de_cellIx 0 (db_of de_int))) (db_var 1))) (db_of de_int))
  (dss_one (ds_retOwn 2))))
  dss_nil)
  (dss_cons (ds_set 2 hC de_int)
  (dss_cons (ds_set 3 hC de_int)
  (dss_cons (ds_while fuel hC (dt_cmp ob_lt (db_var 3) (db_var 1))
  (dss_cons (ds_cellSet 0 (de_fz (de_bin ob_mod (db_of (de_bin ob_mul (db_of (de_cellIx 0 (db_of de_int))) (db_of de_int))) (db_of de_int))) (db_of de_int))
  (dss_cons (ds_set 2 hC (de_bin ob_add (db_of (de_bin ob_mul (db_var 2) (db_of de_int))) (db_of (de_bin ob_fdiv (db_of (de_bin ob_mod (db_of (de_bin ob_mul (db_of (de_cellIx 0 (db_of de_int))) (db_of (de_bin ob_add (db_of (de_bin ob_fdiv (db_of (de_cellIx 0 (db_of de_int))) (db_of de_int))) (db_of de_int))))) (db_of de_int))) (db_of de_int)))))
  (dss_one (ds_set 3 hC (de_bin ob_mul (db_var 3) (db_of de_int)))))))
  (dss_one (ds_ret (de_bin ob_mod (db_var 2) (db_var 1))))))))
abbrev s6 : Stmt := topS 6
abbrev N6 : List Str := []
theorem sc6 : FnScope N6 [] (defScope s6) := ⟨rfl, rfl, rfl, by decide +kernel, rfl, by decide +kernel, by decide +kernel⟩
def m_law_signs : XF := fnX 0 (xRet (xC (.str (Str.ofString ".abcdefghijklmnopqrstuvwxyz"))))
set_option maxHeartbeats 4000000 in
theorem ok6 {P : Program} {w : World} {mg : Str → Option Value} {base : Heap} {G : Gx} {a : Nat → Addr} {fd : Nat → FuncData} (F0 : Fun G.K "_law_signs" "_law_signs" s6 (a 6) (fd 6)) (T : Txt G.K mg a fd) : FnM P w mg base G 1 (a 6) (fd 6) [] m_law_signs :=
  fnM_ok F0 sc6 fun cdv A outer s H E ρ₀ B hr hC hP => by
  have hu := hr.units
  have hu80 := (by have := hr.un; omega : (A.deeper (envOfC "_law_signs" (defScope s6) s.heap.objs.size (a 6) cdv)).units + 80 < cLine)
  exact (dss_one (ds_ret (de_str (hz := by decide +kernel))))
abbrev s7 : Stmt := topS 7
abbrev N7 : List Str := ["_law_draws_here", "_law_first"]
theorem sc7 : FnScope N7 ["_law_draws_here"] (defScope s7) := ⟨rfl, rfl, rfl, by decide +kernel, rfl, by decide +kernel, by decide +kernel⟩
def m_law_few_signs : XF := fnX 2 (xSeq (xSet 1 (xFn m_law_draw [] (xConsS (xVar 0) (xConsS (xC (.int 25)) xNilS))))
  (xRet (xBin itemD (xBo (xLst (xCons (xC (.str (Str.ofString ".a"))) (xCons (xC (.str (Str.ofString "ab"))) (xCons (xC (.str (Str.ofString "abz"))) (xCons (xC (.str (Str.ofString ".ab"))) (xCons (xFz (xSlice (xBo (xFn m_law_signs [] xNilS)) (xPart (xVarB 1)) (xPart (xBo (xBin addD (xVarB 1) (xBo (xC (.int 3)))))))) xNil))))))) (xBo (xFn m_law_draw [] (xConsS (xVar 0) (xConsS (xC (.int 5)) xNilS)))))))
set_option maxHeartbeats 4000000 in
theorem ok7 {P : Program} {w : World} {mg : Str → Option Value} {base : Heap} {G : Gx} {a : Nat → Addr} {fd : Nat → FuncData} (F0 : Fun G.K "_law_few_signs" "_law_few_signs" s7 (a 7) (fd 7)) (T : Txt G.K mg a fd) (F_law_draw : FnM P w mg base G 1 (a 5) (fd 5) ["_law_draws_here", "_law_many"] m_law_draw) (F_law_signs : FnM P w mg base G 1 (a 6) (fd 6) [] m_law_signs) : FnM P w mg base G 2 (a 7) (fd 7) ["_law_draws_here"] m_law_few_signs :=
  fnM_ok F0 sc7 fun cdv A outer s H E ρ₀ B hr hC hP => by
  have hu := hr.units
  have hu80 := (by have := hr.un; omega : (A.deeper (envOfC "_law_few_signs" (defScope s7) s.heap.objs.size (a 7) cdv)).units + 80 < cLine)
  exact (dss_cons (ds_set 1 hC (de_call F_law_draw (hr.mono (by decide)) rfl T.g5 T.k5 T.b5 .nil (fun _ _ => .nil) hP (das_cons (de_var 0) (das_cons de_int das_nil)) (len_cons (len_cons len_nil))))
  (dss_one (ds_ret (de_ix ixb_item (db_of (de_lst (da_cons (de_str (hz := by decide +kernel)) (da_cons (de_str (hz := by decide +kernel)) (da_cons (de_str (hz := by decide +kernel)) (da_cons (de_str (hz := by decide +kernel)) (da_cons (de_fz (de_slice (db_of (de_call0 F_law_signs (hr.mono (by decide)) rfl T.g6 T.k6 T.b6 hP)) (do_some (db_var 1)) (do_some (db_of (de_bin ob_add (db_var 1) (db_of de_int)))))) da_nil))))))) (db_of (de_call F_law_draw (hr.mono (by decide)) rfl T.g5 T.k5 T.b5 .nil (fun _ _ => .nil) hP (das_cons (de_var 0) (das_cons de_int das_nil)) (len_cons (len_cons len_nil))))))))
abbrev s8 : Stmt := topS 8
abbrev N8 : List Str := ["_law_draws_here", "_law_some"]
theorem sc8 : FnScope N8 ["_law_draws_here", "_law_some"] (defScope s8) := ⟨rfl, rfl, rfl, by decide +kernel, rfl, by decide +kernel, by decide +kernel⟩
def m_law_of : XF := fnX 2 (xRet (xBin itemD (xVarB 1) (xBo (xFn m_law_draw [] (xConsS (xVar 0) (xConsS (xFz (xCal lenD (xConsB (xVarB 1) xNil))) xNilS))))))
set_option maxHeartbeats 4000000 in
theorem ok8 {P : Program} {w : World} {mg : Str → Option Value} {base : Heap} {G : Gx} {a : Nat → Addr} {fd : Nat → FuncData} (F0 : Fun G.K "_law_of" "_law_of" s8 (a 8) (fd 8)) (T : Txt G.K mg a fd) (F_law_draw : FnM P w mg base G 1 (a 5) (fd 5) ["_law_draws_here", "_law_many"] m_law_draw) : FnM P w mg base G 2 (a 8) (fd 8) ["_law_draws_here", "_law_some"] m_law_of :=
  fnM_ok F0 sc8 fun cdv A outer s H E ρ₀ B hr hC hP => by
  have hu := hr.units
  have hu80 := (by have := hr.un; omega : (A.deeper (envOfC "_law_of" (defScope s8) s.heap.objs.size (a 8) cdv)).units + 80 < cLine)
  exact (dss_one (ds_ret (de_ix ixb_item (db_var 1) (db_of (de_call F_law_draw (hr.mono (by decide)) rfl T.g5 T.k5 T.b5 .nil (fun _ _ => .nil) hP (das_cons (de_var 0) (das_cons (de_fz (de_callB cb_len rfl T.n_len (by decide +kernel) (dab_cons (db_var 1) dab_nil))) das_nil)) (len_cons (len_cons len_nil)))))))
abbrev s9 : Stmt := topS 9
abbrev N9 : List Str := ["_law_draws_here", "_law_signs_here", "_law_k"]
theorem sc9 : FnScope N9 ["_law_draws_here", "_law_signs_here"] (defScope s9) := ⟨rfl, rfl, rfl, by decide +kernel, rfl, by decide +kernel, by decide +kernel⟩
def m_law_part : XF := fnX 3 (xRet (xM1 joinD (xBo (xC (.str (Str.ofString "")))) (xBo (xLc (xRange range1D (xConsB (xBo (xBin addD (xBo (xC (.int 1))) (xBo (xFn m_law_draw [] (xConsS (xVar 0) (xConsS (xC (.int 3)) xNilS)))))) xNil)) (gNm 2) xYes (xFz (xFn m_law_of [] (xConsS (xVar 0) (xConsS (xVar 1) xNilS)))) [2]))))
set_option maxHeartbeats 4000000 in
theorem ok9 {P : Program} {w : World} {mg : Str → Option Value} {base : Heap} {G : Gx} {a : Nat → Addr} {fd : Nat → FuncData} (F0 : Fun G.K "_law_part" "_law_part" s9 (a 9) (fd 9)) (T : Txt G.K mg a fd) (F_law_draw : FnM P w mg base G 1 (a 5) (fd 5) ["_law_draws_here", "_law_many"] m_law_draw) (F_law_of : FnM P w mg base G 2 (a 8) (fd 8) ["_law_draws_here", "_law_some"] m_law_of) : FnM P w mg base G 3 (a 9) (fd 9) ["_law_draws_here", "_law_signs_here"] m_law_part :=
  fnM_ok F0 sc9 fun cdv A outer s H E ρ₀ B hr hC hP => by
  have hu := hr.units
  have hu80 := (by have := hr.un; omega : (A.deeper (envOfC "_law_part" (defScope s9) s.heap.objs.size (a 9) cdv)).units + 80 < cLine)
  exact (dss_one (ds_ret (de_join (db_of (de_str (hz := by decide +kernel))) (db_of (de_lc (own := [("_law_k", 2)]) hC (di_range1 rfl T.n_range (dab_cons (db_of (de_bin ob_add (db_of de_int) (db_of (de_call F_law_draw (hr.mono (by decide)) rfl T.g5 T.k5 T.b5 .nil (fun _ _ => .nil) hP (das_cons (de_var 0) (das_cons de_int das_nil)) (len_cons (len_cons len_nil)))))) dab_nil)) (blkOk_by (N := N9) (sc := defScope s9) (by decide +kernel)) (fun _ _ _ _ _ => dgb_name 2 hC.nd) (fun _ _ _ _ _ => dts_nil) (fun _ _ _ _ _ => (de_fz (de_call F_law_of (hr.mono (by decide)) rfl T.g8 T.k8 T.b8 .nil (fun _ _ => .nil) passN (das_cons (de_var 0) (das_cons (de_var 1) das_nil)) (len_cons (len_cons len_nil))))))))))
abbrev s10 : Stmt := topS 10
abbrev N10 : List Str := ["_law_draws_here", "_law_signs_here", "_law_k"]
theorem sc10 : FnScope N10 ["_law_draws_here", "_law_signs_here"] (defScope s10) := ⟨rfl, rfl, rfl, by decide +kernel, rfl, by decide +kernel, by decide +kernel⟩
def m_law_path : XF := fnX 3 (xRet (xM1 joinD (xBo (xC (.str (Str.ofString "/")))) (xBo (xLc (xRange range1D (xConsB (xBo (xBin addD (xBo (xC (.int 1))) (xBo (xFn m_law_draw [] (xConsS (xVar 0) (xConsS (xC (.int 4)) xNilS)))))) xNil)) (gNm 2) xYes (xFz (xFn m_law_part [] (xConsS (xVar 0) (xConsS (xVar 1) xNilS)))) [2]))))
set_option maxHeartbeats 4000000 in
theorem ok10 {P : Program} {w : World} {mg : Str → Option Value} {base : Heap} {G : Gx} {a : Nat → Addr} {fd : Nat → FuncData} (F0 : Fun G.K "_law_path" "_law_path" s10 (a 10) (fd 10)) (T : Txt G.K mg a fd) (F_law_draw : FnM P w mg base G 1 (a 5) (fd 5) ["_law_draws_here", "_law_many"] m_law_draw) (F_law_part : FnM P w mg base G 3 (a 9) (fd 9) ["_law_draws_here", "_law_signs_here"] m_law_part) : FnM P w mg base G 4 (a 10) (fd 10) ["_law_draws_here", "_law_signs_here"] m_law_path :=
  fnM_ok F0 sc10 fun cdv A outer s H E ρ₀ B hr hC hP => by
  have hu := hr.units
  have hu80 := (by have := hr.un; omega : (A.deeper (envOfC "_law_path" (defScope s10) s.heap.objs.size (a 10) cdv)).units + 80 < cLine)
  exact (dss_one (ds_ret (de_join (db_of (de_str (hz := by decide +kernel))) (db_of (de_lc (own := [("_law_k", 2)]) hC (di_range1 rfl T.n_range (dab_cons (db_of (de_bin ob_add (db_of de_int) (db_of (de_call F_law_draw (hr.mono (by decide)) rfl T.g5 T.k5 T.b5 .nil (fun _ _ => .nil) hP (das_cons (de_var 0) (das_cons de_int das_nil)) (len_cons (len_cons len_nil)))))) dab_nil)) (blkOk_by (N := N10) (sc := defScope s10) (by decide +kernel)) (fun _ _ _ _ _ => dgb_name 2 hC.nd) (fun _ _ _ _ _ => dts_nil) (fun _ _ _ _ _ => (de_fz (de_call F_law_part (hr.mono (by decide)) rfl T.g9 T.k9 T.b9 .nil (fun _ _ => .nil) passN (das_cons (de_var 0) (das_cons (de_var 1) das_nil)) (len_cons (len_cons len_nil))))))))))
abbrev s11 : Stmt := topS 11
abbrev N11 : List Str := ["_law_script", "_law_k", "_law_draws_here", "_law_signs_here", "_law_paths", "_law_kept", "_law_found", "_law_one", "_law_other", "_law_j", "_law_path_here"]
theorem sc11 : FnScope N11 ["_law_script"] (defScope s11) := ⟨rfl, rfl, rfl, by decide +kernel, rfl, by decide +kernel, by decide +kernel⟩
def m_law : XF := fnX 11 (xSeq (xFor (xRange range1D (xConsB (xBo (xCal maxD (xConsB (xBo (xC (.int 1))) (xConsB (xBo (xCal minD (xConsB (xBo (xC (.int 20))) (xConsB (xBo (xScrLen 0)) xNil)))) xNil)))) xNil)) (gNm 1)
  (xSeq (xSet 2 (xFn m_law_draws [] (xConsS (xVar 0) (xConsS (xVar 1) xNilS))))
  (xSeq (xSet 3 (xFn m_law_few_signs [] (xConsS (xVar 2) xNilS)))
  (xSeq (xFrz 3 (xSet 4 (xLc (xRange range1D (xConsB (xBo (xFn m_law_draw [] (xConsS (xVar 2) (xConsS (xC (.int 8)) xNilS)))) xNil)) (gNm 9) xYes (xFz (xFn m_law_path [] (xConsS (xVar 2) (xConsS (xVar 3) xNilS)))) [9])))
  (xSeq (xSet 4 (xBin addD (xBo (xBin addD (xVarB 4) (xBo (xLc (xIter (xFz (xSlice (xVarB 4) xNoP (xPart (xBo (xC (.int 2))))))) (gNm 10) xYes (xFz (xBin addD (xBo (xBin addD (xVarB 10) (xBo (xC (.str (Str.ofString "/")))))) (xBo (xSlice (xVarB 10) xNoP (xPart (xBo (xC (.int 1)))))))) [10])))) (xBo (xSlice (xVarB 4) xNoP (xPart (xBo (xFn m_law_draw [] (xConsS (xVar 2) (xConsS (xC (.int 3)) xNilS)))))))))
  (xSeq (xSet 5 (xCal listD (xConsB (xVarB 4) xNil)))
  (xSeq (xFrz 4 (xSet 6 (xFn m_in_order [] (xConsS (xVar 4) xNilS))))
  (xSeq (xIfS (xOr (xNot (xTst (xIsi PyData.isList (xVarB 6)))) (xOr (xTst (xBin neD (xBo (xCal sortedD (xConsB (xVarB 6) xNil))) (xBo (xCal sortedD (xConsB (xVarB 5) xNil))))) (xTst (xBin neD (xVarB 4) (xVarB 5)))))
  (xRet (xC (.bool false)))
  xNext)
  (xSeq (xSearchZip (xConsB (xVarB 6) (xConsB (xBo (xSlice (xVarB 6) (xPart (xBo (xC (.int 1)))) xNoP)) xNil)) (gTu (gsCons (gNm 7) (gsCons (gNm 8) gsNil)) 2) (xOr (xTst (xBin gtD (xBo (xCal lenD (xConsB (xVarB 7) xNil))) (xBo (xCal lenD (xConsB (xVarB 8) xNil))))) (xAnd (xTst (xBin eqD (xBo (xCal lenD (xConsB (xVarB 7) xNil))) (xBo (xCal lenD (xConsB (xVarB 8) xNil))))) (xTst (xBin gtD (xVarB 7) (xVarB 8))))) (xC (.bool false)))
  (xSeq (xApp 6 (xC (.str (Str.ofString "x"))))
  (xFrz 4 (xIfS (xTst (xBin neD (xBo (xCal lenD (xConsB (xBo (xFn m_in_order [] (xConsS (xVar 4) xNilS))) xNil))) (xBo (xCal lenD (xConsB (xVarB 5) xNil)))))
  (xRet (xC (.bool false)))
  xNext))))))))))))
  (xRet (xC (.bool true))))
set_option maxHeartbeats 4000000 in
theorem ok11 {P : Program} {w : World} {mg : Str → Option Value} {base : Heap} {G : Gx} {a : Nat → Addr} {fd : Nat → FuncData} (F0 : Fun G.K "law" "law" s11 (a 11) (fd 11)) (T : Txt G.K mg a fd) (F_law_draw : FnM P w mg base G 1 (a 5) (fd 5) ["_law_draws_here", "_law_many"] m_law_draw) (F_law_draws : FnM P w mg base G 1 (a 4) (fd 4) ["_law_script", "_law_k"] m_law_draws) (F_law_few_signs : FnM P w mg base G 2 (a 7) (fd 7) ["_law_draws_here"] m_law_few_signs) (F_law_path : FnM P w mg base G 4 (a 10) (fd 10) ["_law_draws_here", "_law_signs_here"] m_law_path) (F_in_order : FnM P w mg base G 1 (a 2) (fd 2) ["paths"] m_in_order) : FnM P w mg base G 5 (a 11) (fd 11) ["_law_script"] m_law :=
  fnM_ok F0 sc11 fun cdv A outer s H E ρ₀ B hr hC hP => by
  have hu := hr.units
  have hu80 := (by have := hr.un; omega : (A.deeper (envOfC "law" (defScope s11) s.heap.objs.size (a 11) cdv)).units + 80 < cLine)
  exact (dss_cons (ds_for hC (di_range1 rfl T.n_range (dab_cons (db_of (de_callB (cb_max hC.calm) rfl T.n_max (by decide +kernel) (dab_cons (db_of de_int) (dab_cons (db_of (de_callB (cb_min hC.calm) rfl T.n_min (by decide +kernel) (dab_cons (db_of de_int) (dab_cons (db_of (de_scrLen 0 rfl T.n_len PySem.boot_len)) dab_nil)))) dab_nil)))) dab_nil)) (dg_name 1 hC.nd) (fun _ =>
  (dss_cons (ds_set 2 hC (de_call F_law_draws (hr.mono (by decide)) rfl T.g4 T.k4 T.b4 .nil (fun _ _ => .nil) hP (das_cons (de_var 0) (das_cons (de_var 1) das_nil)) (len_cons (len_cons len_nil))))
  (dss_cons (ds_set 3 hC (de_call F_law_few_signs (hr.mono (by decide)) rfl T.g7 T.k7 T.b7 .nil (fun _ _ => .nil) hP (das_cons (de_var 2) das_nil) (len_cons len_nil)))
  (dss_cons (ds_frz 3 (ds_setLc 4 (own := [("_law_j", 9)]) hC (di_range1 rfl T.n_range (dab_cons (db_of (de_call F_law_draw (hr.mono (by decide)) rfl T.g5 T.k5 T.b5 .nil (fun _ _ => .nil) hP (das_cons (de_var 2) (das_cons de_int das_nil)) (len_cons (len_cons len_nil)))) dab_nil)) (blkOk_by (N := N11) (sc := defScope s11) (by decide +kernel)) (fun _ _ _ _ _ => dgb_name 9 hC.nd) (fun _ _ _ _ _ => dts_nil) (fun _ _ _ _ _ => (de_fz (de_call F_law_path (hr.mono (by decide)) rfl T.g10 T.k10 T.b10 .nil (fun _ _ => .nil) passN (das_cons (de_var 2) (das_cons (de_var 3) das_nil)) (len_cons (len_cons len_nil)))))))
  (dss_cons (ds_set 4 hC (de_bin ob_add (db_of (de_bin ob_add (db_var 4) (db_of (de_lc (own := [("_law_path_here", 10)]) hC (di_of (de_fz (de_slice (db_var 4) do_none (do_some (db_of de_int))))) (blkOk_by (N := N11) (sc := defScope s11) (by decide +kernel)) (fun _ _ _ _ _ => dgb_name 10 hC.nd) (fun _ _ _ _ _ => dts_nil) (fun _ _ _ _ _ => (de_fz (de_bin ob_add (db_of (de_bin ob_add (db_var 10) (db_of (de_str (hz := by decide +kernel))))) (db_of (de_slice (db_var 10) do_none (do_some (db_of de_int))))))))))) (db_of (de_slice (db_var 4) do_none (do_some (db_of (de_call F_law_draw (hr.mono (by decide)) rfl T.g5 T.k5 T.b5 .nil (fun _ _ => .nil) hP (das_cons (de_var 2) (das_cons de_int das_nil)) (len_cons (len_cons len_nil)))))))))
  (dss_cons (ds_set 5 hC (de_callTy cb_list rfl T.n_list (by decide +kernel) (dab_cons (db_var 4) dab_nil)))
  (dss_cons (ds_frz 4 (ds_set 6 hC (de_call F_in_order (hr.mono (by decide)) rfl T.g2 T.k2 T.b2 .nil (fun _ _ => .nil) hP (das_cons (de_var 4) das_nil) (len_cons len_nil))))
  (dss_cons (ds_if (DW.dt (dw_or (dt_not (dt_val (de_isi PySem.W.isinstance_list_data (db_var 6) rfl T.n_isinstance (by decide +kernel) rfl T.n_list (by decide +kernel)))) (dw_or (dt_cmp (ob_ne hu) (db_of (de_callB (cb_sorted hu80) rfl T.n_sorted (by decide +kernel) (dab_cons (db_var 6) dab_nil))) (db_of (de_callB (cb_sorted hu80) rfl T.n_sorted (by decide +kernel) (dab_cons (db_var 5) dab_nil)))) (dw_or1 (dt_cmp (ob_ne hu) (db_var 4) (db_var 5))))))
  (dss_one (ds_ret de_bl))
  dss_nil)
  (dss_cons (ds_searchZip hC rfl T.n_zip (dab_cons (db_var 6) (dab_cons (db_of (de_slice (db_var 6) (do_some (db_of de_int)) do_none)) dab_nil)) (dg_tup hC.calm (dgs_cons (dg_name 7 hC.nd) (dgs_cons (dg_name 8 hC.nd) dgs_nil))) (DW.dt (dw_or (dt_cmp ob_gt (db_of (de_callB cb_len rfl T.n_len (by decide +kernel) (dab_cons (db_var 7) dab_nil))) (db_of (de_callB cb_len rfl T.n_len (by decide +kernel) (dab_cons (db_var 8) dab_nil)))) (dw_or1 (DW.dt (dw_and (dt_cmp (ob_eq hu) (db_of (de_callB cb_len rfl T.n_len (by decide +kernel) (dab_cons (db_var 7) dab_nil))) (db_of (de_callB cb_len rfl T.n_len (by decide +kernel) (dab_cons (db_var 8) dab_nil)))) (dw_and1 (dt_cmp ob_gt (db_var 7) (db_var 8)))))))) de_bl)
  (dss_cons (ds_append 6 (de_str (hz := by decide +kernel)))
  (dss_one (ds_frz 4 (ds_if (dt_cmp (ob_ne hu) (db_of (de_callB cb_len rfl T.n_len (by decide +kernel) (dab_cons (db_of (de_call F_in_order (hr.mono (by decide)) rfl T.g2 T.k2 T.b2 .nil (fun _ _ => .nil) hP (das_cons (de_var 4) das_nil) (len_cons len_nil))) dab_nil))) (db_of (de_callB cb_len rfl T.n_len (by decide +kernel) (dab_cons (db_var 5) dab_nil))))
  (dss_one (ds_ret de_bl))
  dss_nil))))))))))))))
  (dss_one (ds_ret de_bl)))
theorem all_mk {P : Program} {w : World} {K : PySem.W.Frag} {h : Heap} {mg : Str → Option Value} {fa : Addr} (X : K.In h) (G : h.Ns mainGlobals mg) (hfa : mg "law" = some (.ref fa))
    {a1 : Addr} {od1 an1 : Option Addr} {sl1 : Array (Option Value)} {oc1 kV1 dc1 pm1 cd1 ct1 : Value}
    (x1 : PySem.W.nsIn K mainGlobals "path_key" = some (some (.ref a1))) (l1 : K.lookup a1 = some ⟨oc1, od1, .func (PySem.W.fnOf "path_key" "path_key" (defArgs s1) (defBody s1) (defScope s1) .none kV1 dc1 pm1 an1 cd1 ct1), sl1⟩) (c1 : PySem.W.codeIn K cd1 "path_key" = true) (k1 : PySem.W.keepIn K (.ref a1) = true)
    {a2 : Addr} {od2 an2 : Option Addr} {sl2 : Array (Option Value)} {oc2 kV2 dc2 pm2 cd2 ct2 : Value}
    (x2 : PySem.W.nsIn K mainGlobals "in_order" = some (some (.ref a2))) (l2 : K.lookup a2 = some ⟨oc2, od2, .func (PySem.W.fnOf "in_order" "in_order" (defArgs s2) (defBody s2) (defScope s2) .none kV2 dc2 pm2 an2 cd2 ct2), sl2⟩) (c2 : PySem.W.codeIn K cd2 "in_order" = true) (k2 : PySem.W.keepIn K (.ref a2) = true)
    {a4 : Addr} {od4 an4 : Option Addr} {sl4 : Array (Option Value)} {oc4 kV4 dc4 pm4 cd4 ct4 : Value}
    (x4 : PySem.W.nsIn K mainGlobals "_law_draws" = some (some (.ref a4))) (l4 : K.lookup a4 = some ⟨oc4, od4, .func (PySem.W.fnOf "_law_draws" "_law_draws" (defArgs s4) (defBody s4) (defScope s4) .none kV4 dc4 pm4 an4 cd4 ct4), sl4⟩) (c4 : PySem.W.codeIn K cd4 "_law_draws" = true) (k4 : PySem.W.keepIn K (.ref a4) = true)
    {a5 : Addr} {od5 an5 : Option Addr} {sl5 : Array (Option Value)} {oc5 kV5 dc5 pm5 cd5 ct5 : Value}
    (x5 : PySem.W.nsIn K mainGlobals "_law_draw" = some (some (.ref a5))) (l5 : K.lookup a5 = some ⟨oc5, od5, .func (PySem.W.fnOf "_law_draw" "_law_draw" (defArgs s5) (defBody s5) (defScope s5) .none kV5 dc5 pm5 an5 cd5 ct5), sl5⟩) (c5 : PySem.W.codeIn K cd5 "_law_draw" = true) (k5 : PySem.W.keepIn K (.ref a5) = true)
    {a6 : Addr} {od6 an6 : Option Addr} {sl6 : Array (Option Value)} {oc6 kV6 dc6 pm6 cd6 ct6 : Value}
    (x6 : PySem.W.nsIn K mainGlobals "_law_signs" = some (some (.ref a6))) (l6 : K.lookup a6 = some ⟨oc6, od6, .func (PySem.W.fnOf "_law_signs" "_law_signs" (defArgs s6) (defBody s6) (defScope s6) .none kV6 dc6 pm6 an6 cd6 ct6), sl6⟩) (c6 : PySem.W.codeIn K cd6 "_law_signs" = true) (k6 : PySem.W.keepIn K (.ref a6) = true)
    {a7 : Addr} {od7 an7 : Option Addr} {sl7 : Array (Option Value)} {oc7 kV7 dc7 pm7 cd7 ct7 : Value}
    (x7 : PySem.W.nsIn K mainGlobals "_law_few_signs" = some (some (.ref a7))) (l7 : K.lookup a7 = some ⟨oc7, od7, .func (PySem.W.fnOf "_law_few_signs" "_law_few_signs" (defArgs s7) (defBody s7) (defScope s7) .none kV7 dc7 pm7 an7 cd7 ct7), sl7⟩) (c7 : PySem.W.codeIn K cd7 "_law_few_signs" = true) (k7 : PySem.W.keepIn K (.ref a7) = true)
    {a8 : Addr} {od8 an8 : Option Addr} {sl8 : Array (Option Value)} {oc8 kV8 dc8 pm8 cd8 ct8 : Value}
    (x8 : PySem.W.nsIn K mainGlobals "_law_of" = some (some (.ref a8))) (l8 : K.lookup a8 = some ⟨oc8, od8, .func (PySem.W.fnOf "_law_of" "_law_of" (defArgs s8) (defBody s8) (defScope s8) .none kV8 dc8 pm8 an8 cd8 ct8), sl8⟩) (c8 : PySem.W.codeIn K cd8 "_law_of" = true) (k8 : PySem.W.keepIn K (.ref a8) = true)
    {a9 : Addr} {od9 an9 : Option Addr} {sl9 : Array (Option Value)} {oc9 kV9 dc9 pm9 cd9 ct9 : Value}
    (x9 : PySem.W.nsIn K mainGlobals "_law_part" = some (some (.ref a9))) (l9 : K.lookup a9 = some ⟨oc9, od9, .func (PySem.W.fnOf "_law_part" "_law_part" (defArgs s9) (defBody s9) (defScope s9) .none kV9 dc9 pm9 an9 cd9 ct9), sl9⟩) (c9 : PySem.W.codeIn K cd9 "_law_part" = true) (k9 : PySem.W.keepIn K (.ref a9) = true)
    {a10 : Addr} {od10 an10 : Option Addr} {sl10 : Array (Option Value)} {oc10 kV10 dc10 pm10 cd10 ct10 : Value}
    (x10 : PySem.W.nsIn K mainGlobals "_law_path" = some (some (.ref a10))) (l10 : K.lookup a10 = some ⟨oc10, od10, .func (PySem.W.fnOf "_law_path" "_law_path" (defArgs s10) (defBody s10) (defScope s10) .none kV10 dc10 pm10 an10 cd10 ct10), sl10⟩) (c10 : PySem.W.codeIn K cd10 "_law_path" = true) (k10 : PySem.W.keepIn K (.ref a10) = true)
    {a11 : Addr} {od11 an11 : Option Addr} {sl11 : Array (Option Value)} {oc11 kV11 dc11 pm11 cd11 ct11 : Value}
    (x11 : PySem.W.nsIn K mainGlobals "law" = some (some (.ref a11))) (l11 : K.lookup a11 = some ⟨oc11, od11, .func (PySem.W.fnOf "law" "law" (defArgs s11) (defBody s11) (defScope s11) .none kV11 dc11 pm11 an11 cd11 ct11), sl11⟩) (c11 : PySem.W.codeIn K cd11 "law" = true) (k11 : PySem.W.keepIn K (.ref a11) = true)
    (z_int : PySem.W.nsIn K mainGlobals "int" = some none)
    (z_isinstance : PySem.W.nsIn K mainGlobals "isinstance" = some none)
    (z_len : PySem.W.nsIn K mainGlobals "len" = some none)
    (z_list : PySem.W.nsIn K mainGlobals "list" = some none)
    (z_max : PySem.W.nsIn K mainGlobals "max" = some none)
    (z_min : PySem.W.nsIn K mainGlobals "min" = some none)
    (z_range : PySem.W.nsIn K mainGlobals "range" = some none)
    (z_sorted : PySem.W.nsIn K mainGlobals "sorted" = some none)
    (z_zip : PySem.W.nsIn K mainGlobals "zip" = some none)
    : ∃ fd : FuncData, (∀ (s : Shared) (v : Value), BindsTo s fd ⟨[v], []⟩ [("_law_script", v)]) ∧ ∀ base : Heap, K.In base → base.Ns mainGlobals mg → FnM P w mg base ⟨K, [], fun _ => none⟩ 5 fa fd ["_law_script"] m_law := by
  have e := hfa.symm.trans (PySem.W.mg_of X G x11)
  cases e
  have F1 := fun_mk (st := s1) l1 c1 k1
  have b1 := F1.binds (ps := ["path"]) fun _ _ _ _ _ _ us hl => match us, hl with | [_], _ => rfl
  have F2 := fun_mk (st := s2) l2 c2 k2
  have b2 := F2.binds (ps := ["paths"]) fun _ _ _ _ _ _ us hl => match us, hl with | [_], _ => rfl
  have F4 := fun_mk (st := s4) l4 c4 k4
  have b4 := F4.binds (ps := ["_law_script", "_law_k"]) fun _ _ _ _ _ _ us hl => match us, hl with | [_, _], _ => rfl
  have F5 := fun_mk (st := s5) l5 c5 k5
  have b5 := F5.binds (ps := ["_law_draws_here", "_law_many"]) fun _ _ _ _ _ _ us hl => match us, hl with | [_, _], _ => rfl
  have F6 := fun_mk (st := s6) l6 c6 k6
  have b6 := F6.binds (ps := []) fun _ _ _ _ _ _ us hl => match us, hl with | [], _ => rfl
  have F7 := fun_mk (st := s7) l7 c7 k7
  have b7 := F7.binds (ps := ["_law_draws_here"]) fun _ _ _ _ _ _ us hl => match us, hl with | [_], _ => rfl
  have F8 := fun_mk (st := s8) l8 c8 k8
  have b8 := F8.binds (ps := ["_law_draws_here", "_law_some"]) fun _ _ _ _ _ _ us hl => match us, hl with | [_, _], _ => rfl
  have F9 := fun_mk (st := s9) l9 c9 k9
  have b9 := F9.binds (ps := ["_law_draws_here", "_law_signs_here"]) fun _ _ _ _ _ _ us hl => match us, hl with | [_, _], _ => rfl
  have F10 := fun_mk (st := s10) l10 c10 k10
  have b10 := F10.binds (ps := ["_law_draws_here", "_law_signs_here"]) fun _ _ _ _ _ _ us hl => match us, hl with | [_, _], _ => rfl
  have F11 := fun_mk (st := s11) l11 c11 k11
  have b11 := F11.binds (ps := ["_law_script"]) fun _ _ _ _ _ _ us hl => match us, hl with | [_], _ => rfl
  have T : Txt K mg (fun i => [0, a1, a2, 0, a4, a5, a6, a7, a8, a9, a10, fa].getD i 0) (fun i => [PySem.W.fnOf "" "" (defArgs s11) [] (defScope s11) .none .none .none .none none .none .none, PySem.W.fnOf "path_key" "path_key" (defArgs s1) (defBody s1) (defScope s1) .none kV1 dc1 pm1 an1 cd1 ct1, PySem.W.fnOf "in_order" "in_order" (defArgs s2) (defBody s2) (defScope s2) .none kV2 dc2 pm2 an2 cd2 ct2, PySem.W.fnOf "" "" (defArgs s11) [] (defScope s11) .none .none .none .none none .none .none, PySem.W.fnOf "_law_draws" "_law_draws" (defArgs s4) (defBody s4) (defScope s4) .none kV4 dc4 pm4 an4 cd4 ct4, PySem.W.fnOf "_law_draw" "_law_draw" (defArgs s5) (defBody s5) (defScope s5) .none kV5 dc5 pm5 an5 cd5 ct5, PySem.W.fnOf "_law_signs" "_law_signs" (defArgs s6) (defBody s6) (defScope s6) .none kV6 dc6 pm6 an6 cd6 ct6, PySem.W.fnOf "_law_few_signs" "_law_few_signs" (defArgs s7) (defBody s7) (defScope s7) .none kV7 dc7 pm7 an7 cd7 ct7, PySem.W.fnOf "_law_of" "_law_of" (defArgs s8) (defBody s8) (defScope s8) .none kV8 dc8 pm8 an8 cd8 ct8, PySem.W.fnOf "_law_part" "_law_part" (defArgs s9) (defBody s9) (defScope s9) .none kV9 dc9 pm9 an9 cd9 ct9, PySem.W.fnOf "_law_path" "_law_path" (defArgs s10) (defBody s10) (defScope s10) .none kV10 dc10 pm10 an10 cd10 ct10, PySem.W.fnOf "law" "law" (defArgs s11) (defBody s11) (defScope s11) .none kV11 dc11 pm11 an11 cd11 ct11].getD i (PySem.W.fnOf "" "" (defArgs s11) [] (defScope s11) .none .none .none .none none .none .none)) := ⟨PySem.W.mg_none_of X G z_int, PySem.W.mg_none_of X G z_isinstance, PySem.W.mg_none_of X G z_len, PySem.W.mg_none_of X G z_list, PySem.W.mg_none_of X G z_max, PySem.W.mg_none_of X G z_min, PySem.W.mg_none_of X G z_range, PySem.W.mg_none_of X G z_sorted, PySem.W.mg_none_of X G z_zip, PySem.W.mg_of X G x1, k1, b1, PySem.W.mg_of X G x2, k2, b2, PySem.W.mg_of X G x4, k4, b4, PySem.W.mg_of X G x5, k5, b5, PySem.W.mg_of X G x6, k6, b6, PySem.W.mg_of X G x7, k7, b7, PySem.W.mg_of X G x8, k8, b8, PySem.W.mg_of X G x9, k9, b9, PySem.W.mg_of X G x10, k10, b10, PySem.W.mg_of X G x11, k11, b11⟩
  refine ⟨PySem.W.fnOf "law" "law" (defArgs s11) (defBody s11) (defScope s11) .none kV11 dc11 pm11 an11 cd11 ct11, fun s v => .of_eq rfl, fun base _ _ => ?_⟩
  have O1 := ok1 (P := P) (w := w) (base := base) (G := ⟨K, [], fun _ => none⟩) F1 T  
  have O2 := ok2 (P := P) (w := w) (base := base) (G := ⟨K, [], fun _ => none⟩) F2 T  F1
  have O4 := ok4 (P := P) (w := w) (base := base) (G := ⟨K, [], fun _ => none⟩) F4 T  
  have O5 := ok5 (P := P) (w := w) (base := base) (G := ⟨K, [], fun _ => none⟩) F5 T  
  have O6 := ok6 (P := P) (w := w) (base := base) (G := ⟨K, [], fun _ => none⟩) F6 T  
  have O7 := ok7 (P := P) (w := w) (base := base) (G := ⟨K, [], fun _ => none⟩) F7 T O5 O6 
  have O8 := ok8 (P := P) (w := w) (base := base) (G := ⟨K, [], fun _ => none⟩) F8 T O5 
  have O9 := ok9 (P := P) (w := w) (base := base) (G := ⟨K, [], fun _ => none⟩) F9 T O5 O8 
  have O10 := ok10 (P := P) (w := w) (base := base) (G := ⟨K, [], fun _ => none⟩) F10 T O5 O9 
  have O11 := ok11 (P := P) (w := w) (base := base) (G := ⟨K, [], fun _ => none⟩) F11 T O5 O4 O7 O10 O2 
  exact O11
end K02
set_option Elab.async false
set_option linter.all false
set_option maxRecDepth 100000
set_option maxHeartbeats 4000000
namespace K02
open PySem DL
/-- the draws' cell -/
def Cl (c : Nat) (hs : Hs) : Prop := ∃ a b : Int, hs[c]? = some [.int a, .int b] ∧ 0 ≤ a ∧ a < 2 ^ 1000 ∧ 0 ≤ b ∧ b < 2147483648
theorem Cl.set {c : Nat} {hs : Hs} {a b : Int} (h : Cl c hs) (h1 : 0 ≤ a) (h2 : a < 2 ^ 1000) (h3 : 0 ≤ b) (h4 : b < 2147483648) : Cl c (hs.set c [.int a, .int b]) := by
  obtain ⟨_, _, e, _⟩ := h
  have hc := (List.getElem?_eq_some_iff.mp e).1
  exact ⟨a, b, by simp [hc], h1, h2, h3, h4⟩
theorem nat_lt {i : Int} {k : Nat} (h0 : 0 ≤ i) (h : i < 2 ^ k) : i.natAbs < 2 ^ k := by
  have : ((i.natAbs : Nat) : Int) < ((2 ^ k : Nat) : Int) := by rw [Int.natAbs_of_nonneg h0]; push_cast; exact h
  exact_mod_cast this
@[simp] theorem at0 {α : Type} {x y : α} : L2.atI [x, y] 0 = some x := rfl
@[simp] theorem at1 {α : Type} {x y : α} : L2.atI [x, y] 1 = some y := rfl
@[simp] theorem ix0 : L2.ixN 2 0 = some 0 := rfl
@[simp] theorem ix1 : L2.ixN 2 1 = some 1 := rfl
theorem draw_spec {c : Nat} {hs : Hs} {n : Int} (h : Cl c hs) (h0 : 0 < n) (h1 : n ≤ 268435456) : W (m_law_draw [.cell c, .dat (.int n)] hs) fun p => (∃ f, p.1 = .dat (.int f) ∧ 0 ≤ f ∧ f < n) ∧ Cl c p.2 := by
  obtain ⟨a, b, e, ha, ha2, hb, hb2⟩ := id h
  have hn : n.natAbs < 2 ^ 2000 := Nat.lt_of_lt_of_le (nat_lt (k := 29) (by omega) (by omega)) (Nat.pow_le_pow_right (by decide) (by decide))
  unfold m_law_draw
  rw [W_fnX, W_xSeq]
  by_cases hpos : 0 < a
  · simp [startE, e, W_ite, hpos, modD_ok h0, fdivD_ok h0 hn]
    refine ⟨⟨Int.emod_nonneg _ (by omega), Int.emod_lt_of_pos _ h0⟩, h.set (Int.ediv_nonneg ha (by omega)) ?_ hb hb2⟩
    exact Int.lt_of_le_of_lt (Int.ediv_le_self _ ha) ha2
  · simp only [startE, xIfS, xTst, xBin, W_bindE, W_andThen]
    simp [e, hpos, W_ite]
    refine W_while (fun k env hs => ∃ f w : Int, env = [some (.cell c), some (.dat (.int n)), some (.dat (.int f)), some (.dat (.int w))] ∧ Cl c hs ∧ ((k = 1 ∧ f = 0 ∧ w = 1) ∨ (k = 0 ∧ w = 268435456))) ?_ fuel 1 _ _ (by decide) ⟨0, 1, rfl, h, .inl ⟨rfl, rfl, rfl⟩⟩
    rintro k env hs ⟨f, w, rfl, hc, hk⟩
    obtain ⟨a, b, e, ha, ha2, hb, hb2⟩ := id hc
    by_cases hw : w < n
    · have hk' : k = 1 ∧ f = 0 ∧ w = 1 := by
        rcases hk with hk | ⟨_, hk⟩
        · exact hk
        · omega
      obtain ⟨rfl, rfl, rfl⟩ := hk'
      have hl : c < hs.length := (List.getElem?_eq_some_iff.mp e).1
      have m1 : mulD (.int b) (.int 69621) = some (.dat (.int (b * 69621))) := mulD_ok (Nat.lt_of_lt_of_le (nat_lt (k := 31) hb (by omega)) (Nat.pow_le_pow_right (by decide) (by decide))) (by decide +kernel)
      have hr1 : 0 ≤ b * 69621 % 2147483647 := Int.emod_nonneg _ (by decide)
      have hr2 : b * 69621 % 2147483647 < 2147483647 := Int.emod_lt_of_pos _ (by decide)
      generalize hr : b * 69621 % 2147483647 = r at hr1 hr2
      have m2 : mulD (.int 0) (.int 268435456) = some (.dat (.int (0 * 268435456))) := mulD_ok (by decide +kernel) (by decide +kernel)
      have m3 : mulD (.int r) (.int (r / 128 + 3)) = some (.dat (.int (r * (r / 128 + 3)))) := mulD_ok (Nat.lt_of_lt_of_le (nat_lt (k := 31) hr1 (by omega)) (Nat.pow_le_pow_right (by decide) (by decide))) (Nat.lt_of_lt_of_le (nat_lt (k := 31) (by omega) (by omega)) (Nat.pow_le_pow_right (by decide) (by decide)))
      have m4 : mulD (.int 1) (.int 268435456) = some (.dat (.int (1 * 268435456))) := mulD_ok (by decide +kernel) (by decide +kernel)
      have d1 : fdivD (.int r) (.int 128) = some (.dat (.int (r / 128))) := fdivD_ok (by decide) (by decide +kernel)
      have d2 : ∀ x, fdivD (.int x) (.int 8) = some (.dat (.int (x / 8))) := fun x => fdivD_ok (by decide) (by decide +kernel)
      have o1 : ∀ x, modD (.int x) (.int 2147483647) = some (.dat (.int (x % 2147483647))) := fun x => modD_ok (by decide)
      have o2 : ∀ x, modD (.int x) (.int 2147483629) = some (.dat (.int (x % 2147483629))) := fun x => modD_ok (by decide)
      have hg : ∀ x : List D, (hs.set c x)[c]? = some x := fun x => List.getElem?_set_self hl
      simp [hw, e, m1, o1, hr, hg, m2, m3, m4, d1, d2, o2]
      exact hc.set ha ha2 hr1 (by omega)
    · simp [hw, modD_ok h0]
      exact ⟨⟨Int.emod_nonneg _ (by omega), Int.emod_lt_of_pos _ h0⟩, hc⟩
theorem abs_lt {i : Int} (k : Nat) (h0 : 0 ≤ i) (h : i < 2 ^ k) (hk : k ≤ 2000) : i.natAbs < 2 ^ 2000 := Nat.lt_of_lt_of_le (nat_lt h0 h) (Nat.pow_le_pow_right (by decide) hk)
theorem atI_nat {α : Type} {xs : List α} {i : Int} (h0 : 0 ≤ i) (h : i < xs.length) : L2.atI xs i = some (xs[i.toNat]'(by omega)) := by
  have hi : i.toNat < xs.length := by omega
  unfold L2.atI L2.ixN
  split
  · simp [hi]
  · omega
theorem pow_ok {i j : Int} (h0 : 0 ≤ j) (h1 : j ≤ 1000000) (h : i.natAbs < 2 ^ 64) : powD (.int i) (.int j) = some (.dat (.int (i ^ j.toNat))) := by
  unfold powD
  dsimp only
  rw [if_pos ⟨h0, h1, h⟩]
theorem draws_spec {ns : List Int} {k : Int} {hs : Hs} (hl : ns.length ≤ 63) (h0 : 0 ≤ k) (hk : k ≤ 63) : W (m_law_draws [.scr ns, .dat (.int k)] hs) fun p => p.1 = .cell hs.length ∧ Cl hs.length p.2 := by
  have p60 : powD (.int 10) (.int 60) = some (.dat (.int (10 ^ 60))) := pow_ok (by decide) (by decide) (by decide)
  have p15 : powD (.int 10) (.int 15) = some (.dat (.int (10 ^ 15))) := pow_ok (by decide) (by decide) (by decide)
  have p18 : powD (.int 10) (.int 18) = some (.dat (.int (10 ^ 18))) := pow_ok (by decide) (by decide) (by decide)
  have q1 : mulD (.int (10 ^ 60)) (.int (10 ^ 60)) = some (.dat (.int (10 ^ 60 * 10 ^ 60))) := mulD_ok (by decide +kernel) (by decide +kernel)
  have q2 : mulD (.int (10 ^ 60 * 10 ^ 60)) (.int (10 ^ 60)) = some (.dat (.int (10 ^ 60 * 10 ^ 60 * 10 ^ 60))) := mulD_ok (by decide +kernel) (by decide +kernel)
  have q3 : mulD (.int (10 ^ 60 * 10 ^ 60 * 10 ^ 60)) (.int (10 ^ 60)) = some (.dat (.int (10 ^ 60 * 10 ^ 60 * 10 ^ 60 * 10 ^ 60))) := mulD_ok (by decide +kernel) (by decide +kernel)
  have q4 : mulD (.int (10 ^ 60 * 10 ^ 60 * 10 ^ 60 * 10 ^ 60)) (.int (10 ^ 60)) = some (.dat (.int (10 ^ 60 * 10 ^ 60 * 10 ^ 60 * 10 ^ 60 * 10 ^ 60))) := mulD_ok (by decide +kernel) (by decide +kernel)
  generalize hA : (10 : Int) ^ 60 = A at p60 q1 q2 q3 q4
  generalize hB : A * A * A * A * A = M at q4
  have hM : 0 < M := by rw [← hB, ← hA]; decide +kernel
  have hM2 : M < 2 ^ 1000 := by rw [← hB, ← hA]; decide +kernel
  generalize hC : (10 : Int) ^ 15 = C at p15
  have hC0 : C = 1000000000000000 := by rw [← hC]; rfl
  generalize hE : (10 : Int) ^ 18 = E18 at p18
  have k1 : mulD (.int 15485863) (.int k) = some (.dat (.int (15485863 * k))) := mulD_ok (by decide +kernel) (abs_lt 30 h0 (by omega) (by decide))
  have k2 : mulD (.int 86028121) (.int (k + 1)) = some (.dat (.int (86028121 * (k + 1)))) := mulD_ok (by decide +kernel) (abs_lt 30 (by omega) (by omega) (by decide))
  have z1 : ∀ z : Int, 0 ≤ z → z < 2 ^ 1000 → mulD (.int z) (.int 69621) = some (.dat (.int (z * 69621))) := fun z a b => mulD_ok (abs_lt 1000 a b (by decide)) (by decide +kernel)
  have z2 : ∀ z : Int, 0 ≤ z → z < 2 ^ 1000 → mulD (.int z) (.int (if E18 ≤ z then 1 else 0)) = some (.dat (.int (z * if E18 ≤ z then 1 else 0))) := fun z a c => mulD_ok (abs_lt 1000 a c (by decide)) (by split <;> decide +kernel)
  have z3 : ∀ z : Int, modD (.int z) (.int 2147483646) = some (.dat (.int (z % 2147483646))) := fun z => modD_ok (by decide)
  have fin : ∀ z : Int, 0 ≤ z → z < 2 ^ 1000 → Cl hs.length (hs ++ [[.int (z * if E18 ≤ z then 1 else 0), .int (1 + (z * 69621 + 86028121 * (k + 1)) % 2147483646)]]) := fun z a c => by
    have r1 : 0 ≤ (z * 69621 + 86028121 * (k + 1)) % 2147483646 := Int.emod_nonneg _ (by decide)
    have r2 : (z * 69621 + 86028121 * (k + 1)) % 2147483646 < 2147483646 := Int.emod_lt_of_pos _ (by decide)
    refine ⟨(z * if E18 ≤ z then 1 else 0), 1 + (z * 69621 + 86028121 * (k + 1)) % 2147483646, by rw [List.getElem?_append_right (Nat.le_refl _), Nat.sub_self]; rfl, ?_, ?_, by omega, by omega⟩
    · split <;> simp [a]
    · split
      · rw [Int.mul_one]; exact c
      · rw [Int.mul_zero]; decide +kernel
  unfold m_law_draws
  rw [W_fnX, W_xSeq]
  simp [startE, k1, W_xSeq]
  refine W.mono (Q := fun p => ∃ z : Int, 0 ≤ z ∧ z < 2 ^ 1000 ∧ p = (.nx, [some (.scr ns), some (.dat (.int k)), some (.dat (.int z))], hs)) ?_ ?_
  · by_cases hk1 : k < ns.length
    · have m1 := modD_ok (i := ns[k.toNat]'(by omega)) hM
      have g1 : 0 ≤ ns[k.toNat]'(by omega) % M := Int.emod_nonneg _ (by omega)
      have g2 : ns[k.toNat]'(by omega) % M < 2 ^ 1000 := Int.lt_trans (Int.emod_lt_of_pos _ hM) hM2
      generalize hz : ns[k.toNat]'(by omega) % M = z at m1 g1 g2
      simp [hk1, p60, q1, q2, q3, q4, atI_nat h0 hk1, m1, g1, g2]
    · by_cases hk2 : (0 : Int) < ns.length
      · have b1 : 0 ≤ k % (ns.length : Int) := Int.emod_nonneg _ (by omega)
        have b2 : k % (ns.length : Int) < ns.length := Int.emod_lt_of_pos _ hk2
        have m0 := modD_ok (i := k) hk2
        have m1 := fun i => modD_ok (i := i) (j := C) (by omega)
        have g1 : ∀ i, 0 ≤ i % C := fun i => Int.emod_nonneg _ (by omega)
        have g2 : ∀ i, i % C < C := fun i => Int.emod_lt_of_pos _ (by omega)
        have a1 := atI_nat b1 b2
        have hk2' : 0 < ns.length := by omega
        simp [hk1, hk2', p15, m0, m1, a1, k1]
        generalize hi : ns[(k % (ns.length : Int)).toNat]'(by omega) = i
        have := g1 i
        have := g2 i
        refine ⟨by omega, ?_⟩
        refine Int.lt_of_lt_of_le (b := 2 ^ 60) (by omega) (by decide +kernel)
      · have hk0 : ns = [] := List.length_eq_zero_iff.mp (by omega)
        subst hk0
        have hk3 : ¬ k < 0 := by omega
        simp [hk3]
        refine ⟨by omega, ?_⟩
        refine Int.lt_of_lt_of_le (b := 2 ^ 60) (by omega) (by decide +kernel)
  · rintro p ⟨z, a, b, rfl⟩
    simp [intD, p18, z1 z a b, z2 z a b, k2, z3, W_ite]
    exact ⟨by decide, fin z a b⟩
end K02
set_option Elab.async false
set_option linter.all false
set_option maxRecDepth 100000
set_option maxHeartbeats 4000000
namespace K02
open PySem DL
def TextD (b : Nat) (d : D) : Prop := ∃ x : Str, d = .str x ∧ x.length ≤ b
theorem joinStrs_ok {b : Nat} : ∀ {ds : List D}, (∀ d ∈ ds, TextD b d) → ∃ ls, joinStrs ds = some ls ∧ ls.length = ds.length ∧ ∀ l ∈ ls, l.length ≤ b
  | [], _ => ⟨[], rfl, rfl, fun _ h => by cases h⟩
  | d :: r, h => by
    obtain ⟨ls, e, hl, hb⟩ := joinStrs_ok (ds := r) fun d hd => h d (List.mem_cons_of_mem _ hd)
    obtain ⟨x, rfl, hx⟩ := h d List.mem_cons_self
    refine ⟨x.cps.toList :: ls, ?_, by simp [hl], fun l hl => ?_⟩
    · unfold joinStrs; rw [e]; rfl
    · rcases List.mem_cons.mp hl with rfl | hl
      · simpa [Str.length] using hx
      · exact hb l hl
theorem sum_le {b : Nat} : ∀ {ls : List (List Nat)}, (∀ l ∈ ls, l.length ≤ b) → (ls.map List.length).sum ≤ ls.length * b
  | [], _ => by simp
  | l :: r, h => by
    have := sum_le (ls := r) fun l hl => h l (List.mem_cons_of_mem _ hl)
    have := h l List.mem_cons_self
    simp only [List.map_cons, List.sum_cons, List.length_cons, Nat.add_mul, Nat.one_mul]
    omega
theorem joinL_len (S : List Nat) : ∀ ls : List (List Nat), (TL.joinL S ls).length ≤ (ls.map List.length).sum + ls.length * S.length
  | [] => by simp [TL.joinL]
  | [p] => by simp [TL.joinL]
  | p :: q :: r => by
    have := joinL_len S (q :: r)
    simp only [TL.joinL, List.length_append, List.map_cons, List.sum_cons, List.length_cons] at this ⊢
    have e : (r.length + 1 + 1) * S.length = (r.length + 1) * S.length + S.length := Nat.succ_mul _ _
    omega
theorem join_ok {b m : Nat} {y : Str} {ds : List D} (h : ∀ d ∈ ds, TextD b d) (hm : ds.length ≤ m) (hz : m * b + m * y.length ≤ 16777216) : ∃ z : Str, joinD (.str y) (.list ds) = some (.dat (.str z)) ∧ z.length ≤ m * b + m * y.length := by
  obtain ⟨ls, e, hl, hb⟩ := joinStrs_ok h
  have s1 := sum_le hb
  have s2 := joinL_len (TL.tl y) ls
  have s3 : (TL.tl y).length = y.length := by simp [TL.tl, Str.length]
  have s4 : ls.length * b ≤ m * b := Nat.mul_le_mul_right _ (by omega)
  have s5 : ls.length * y.length ≤ m * y.length := Nat.mul_le_mul_right _ (by omega)
  rw [s3] at s2
  refine ⟨mkS (TL.joinL (TL.tl y) ls), ?_, ?_⟩
  · show (joinStrs ds).bind _ = _
    rw [e]
    show (if _ then _ else _) = _
    rw [if_pos (by omega)]
  · show (TL.joinL (TL.tl y) ls).toArray.size ≤ _
    rw [List.size_toArray]
    omega
theorem few_spec {c : Nat} {hs : Hs} (h : Cl c hs) : W (m_law_few_signs [.cell c] hs) fun p => (∃ x : Str, p.1 = .dat (.str x) ∧ 1 ≤ x.length ∧ x.length ≤ 4) ∧ Cl c p.2 := by
  unfold m_law_few_signs
  rw [W_fnX, W_xSeq]
  simp [startE]
  refine (draw_spec h (by decide) (by decide)).mono ?_
  rintro ⟨r, hs1⟩ ⟨⟨f, rfl, f0, f1⟩, c1⟩
  have hl : (Str.ofString ".abcdefghijklmnopqrstuvwxyz").length = 27 := by decide +kernel
  have hcl : (cutL (Str.ofString ".abcdefghijklmnopqrstuvwxyz").cps.toList (some f) (some (f + 3))).length = 3 := by
    unfold cutL
    have e : (Str.ofString ".abcdefghijklmnopqrstuvwxyz").cps.toList.length = 27 := by decide +kernel
    rw [e, List.length_take, List.length_drop, e]
    rw [show HT.sIx 27 27 (some (f + 3)) = min (f + 3).toNat 27 from if_neg (by omega), show HT.sIx 27 0 (some f) = min f.toNat 27 from if_neg (by omega)]
    omega
  have s5 : (5 : Nat) ≤ sizeLine := by decide
  have s27 : (27 : Nat) ≤ sizeLine := by decide
  simp [startE, m_law_signs, sliceD, hl, W_ite, s5, s27]
  have key : ∀ n : Int, 0 ≤ n → n < 5 → ∀ z : Str, z.length = 3 → ∃ x : Str, itemD (.list [.str (Str.ofString ".a"), .str (Str.ofString "ab"), .str (Str.ofString "abz"), .str (Str.ofString ".ab"), .str z]) (.int n) = some (.dat (.str x)) ∧ 1 ≤ x.length ∧ x.length ≤ 4 := fun n n0 n5 z hz => by
    have hn : n = 0 ∨ n = 1 ∨ n = 2 ∨ n = 3 ∨ n = 4 := by omega
    rcases hn with rfl | rfl | rfl | rfl | rfl
    · exact ⟨_, rfl, by decide +kernel, by decide +kernel⟩
    · exact ⟨_, rfl, by decide +kernel, by decide +kernel⟩
    · exact ⟨_, rfl, by decide +kernel, by decide +kernel⟩
    · exact ⟨_, rfl, by decide +kernel, by decide +kernel⟩
    · exact ⟨z, rfl, by omega, by omega⟩
  refine (draw_spec (n := 5) c1 (by decide) (by decide)).mono ?_
  rintro ⟨r, hs2⟩ ⟨⟨g, rfl, g0, g1⟩, c2⟩
  obtain ⟨x, e, x1, x2⟩ := key g g0 g1 ⟨(cutL (Str.ofString ".abcdefghijklmnopqrstuvwxyz").cps.toList (some f) (some (f + 3))).toArray⟩ (by rw [← hcl]; exact List.size_toArray)
  simp [e, x1, x2, c2]
theorem of_spec {c : Nat} {hs : Hs} {x : Str} (h : Cl c hs) (h1 : 1 ≤ x.length) (h2 : x.length ≤ 1000) : W (m_law_of [.cell c, .dat (.str x)] hs) fun p => (∃ ch : Nat, p.1 = .dat (.str ⟨#[ch]⟩)) ∧ Cl c p.2 := by
  unfold m_law_of
  rw [W_fnX]
  have hz : x.length ≤ sizeLine := Nat.le_trans h2 (by decide)
  simp [startE, hz]
  refine (draw_spec h (by omega) (by omega)).mono ?_
  rintro ⟨r, hs1⟩ ⟨⟨f, rfl, f0, f1⟩, c1⟩
  have a1 := atI_nat (xs := x.cps.toList) f0 (by simpa [Str.length] using f1)
  simp [itemD, hz, a1, c1]
theorem range1_ok {j : Int} (h0 : 0 ≤ j) (h1 : j < 1000000) : range1D [.int j] = some (rangeD 0 1 j.toNat) := by
  unfold range1D
  dsimp only
  rw [if_pos ⟨Int.le_trans (by decide) h0, Int.lt_trans h1 (by decide)⟩]
theorem rangeD_len {lo c : Int} {n : Nat} : (rangeD lo c n).length = n := by simp [rangeD]
theorem part_spec {c : Nat} {hs : Hs} {x : Str} (h : Cl c hs) (h1 : 1 ≤ x.length) (h2 : x.length ≤ 1000) : W (m_law_part [.cell c, .dat (.str x)] hs) fun p => (∃ y : Str, p.1 = .dat (.str y) ∧ y.length ≤ 3) ∧ Cl c p.2 := by
  unfold m_law_part
  rw [W_fnX]
  simp [startE]
  refine (draw_spec h (by decide) (by decide)).mono ?_
  rintro ⟨r, hs1⟩ ⟨⟨f, rfl, f0, f1⟩, c1⟩
  simp [range1_ok (j := 1 + f) (by omega) (by omega)]
  refine (W_lcL (Cl c) (TextD 1) ?_ _ 0 hs1 (fun d hd => hd) (by rw [rangeD_len, Nat.zero_add]; exact Nat.le_trans (m := 1000) (by omega) (by decide)) c1).mono ?_
  · intro d hs2 _ c2
    refine ⟨_, rfl, ?_⟩
    simp [wipeE]
    refine (of_spec c2 h1 h2).mono ?_
    rintro ⟨r, hs3⟩ ⟨⟨ch, rfl⟩, c3⟩
    exact ⟨_, rfl, ⟨_, rfl, Nat.le_refl 1⟩, c3⟩
  · rintro ⟨ds, hs2⟩ ⟨y1, y2, c2⟩
    rw [rangeD_len] at y2
    obtain ⟨z, e, hz⟩ := join_ok (m := 3) (y := Str.ofString "") y1 (by omega) (by decide +kernel)
    have e0 : (Str.ofString "").length = 0 := by decide +kernel
    rw [e0] at hz
    simp [e, c2]
    omega
theorem path_spec {c : Nat} {hs : Hs} {x : Str} (h : Cl c hs) (h1 : 1 ≤ x.length) (h2 : x.length ≤ 1000) : W (m_law_path [.cell c, .dat (.str x)] hs) fun p => (∃ y : Str, p.1 = .dat (.str y) ∧ y.length ≤ 16) ∧ Cl c p.2 := by
  unfold m_law_path
  rw [W_fnX]
  simp [startE]
  refine (draw_spec h (by decide) (by decide)).mono ?_
  rintro ⟨r, hs1⟩ ⟨⟨f, rfl, f0, f1⟩, c1⟩
  simp [range1_ok (j := 1 + f) (by omega) (by omega)]
  refine (W_lcL (Cl c) (TextD 3) ?_ _ 0 hs1 (fun d hd => hd) (by rw [rangeD_len, Nat.zero_add]; exact Nat.le_trans (m := 1000) (by omega) (by decide)) c1).mono ?_
  · intro d hs2 _ c2
    refine ⟨_, rfl, ?_⟩
    simp [wipeE]
    refine (part_spec c2 h1 h2).mono ?_
    rintro ⟨r, hs3⟩ ⟨⟨y, rfl, hy⟩, c3⟩
    exact ⟨_, rfl, ⟨_, rfl, hy⟩, c3⟩
  · rintro ⟨ds, hs2⟩ ⟨y1, y2, c2⟩
    rw [rangeD_len] at y2
    obtain ⟨z, e, hz⟩ := join_ok (m := 4) (y := Str.ofString "/") y1 (by omega) (by decide +kernel)
    have e0 : (Str.ofString "/").length = 1 := by decide +kernel
    rw [e0] at hz
    simp [e, c2]
    omega
end K02
set_option Elab.async false
set_option linter.all false
set_option maxRecDepth 100000
set_option maxHeartbeats 4000000
namespace DL
open PySem
open PySem.W (alike alikeAll dataLe dataLt dataLt_pair dataLt_int dataLt_str)
abbrev txs (ps : List Str) : List D := ps.map .str
/-- the order of texts by signs -/
def leS (x y : Str) : Bool := decide (x.cps.toList ≤ y.cps.toList)
/-- the order of texts by length, then by signs -/
def leL (x y : Str) : Bool := decide (x.length < y.length ∨ (x.length = y.length ∧ x.cps.toList ≤ y.cps.toList))
theorem leS_total (a b : Str) : (leS a b || leS b a) = true := by
  unfold leS
  rcases List.le_total a.cps.toList b.cps.toList with h | h <;> simp [h]
theorem leS_trans (a b c : Str) (h : leS a b = true) (h' : leS b c = true) : leS a c = true := by
  unfold leS at *
  exact decide_eq_true (List.le_trans (of_decide_eq_true h) (of_decide_eq_true h'))
theorem leS_anti {a b : Str} (h : leS a b = true) (h' : leS b a = true) : a = b := PySem.W.str_of_cps (List.le_antisymm (of_decide_eq_true h) (of_decide_eq_true h'))
theorem leL_total (a b : Str) : (leL a b || leL b a) = true := by
  unfold leL
  rw [Bool.or_eq_true, decide_eq_true_eq, decide_eq_true_eq]
  rcases Nat.lt_trichotomy a.length b.length with h | h | h
  · exact .inl (.inl h)
  · rcases List.le_total a.cps.toList b.cps.toList with q | q
    · exact .inl (.inr ⟨h, q⟩)
    · exact .inr (.inr ⟨h.symm, q⟩)
  · exact .inr (.inl h)
theorem leL_trans (a b c : Str) (h : leL a b = true) (h' : leL b c = true) : leL a c = true := by
  unfold leL at *
  have h := of_decide_eq_true h
  have h' := of_decide_eq_true h'
  refine decide_eq_true ?_
  rcases h with h | ⟨h1, h2⟩ <;> rcases h' with h' | ⟨h3, h4⟩
  · exact .inl (by omega)
  · exact .inl (by omega)
  · exact .inl (by omega)
  · exact .inr ⟨by omega, List.le_trans h2 h4⟩
theorem depth_str (x : Str) : PyData.depth (.str x) ≤ 1 := by simp [PyData.depth]
theorem depthAll_txs : ∀ ps : List Str, PyData.depthAll (txs ps) ≤ 1
  | [] => by simp [PyData.depthAll]
  | p :: r => by
    have h : PyData.depthAll (r.map PyData.str) ≤ 1 := depthAll_txs r
    show PyData.depthAll (.str p :: r.map PyData.str) ≤ 1
    simp only [PyData.depthAll, PyData.depth]
    omega
theorem sortOk_strs (ps : List Str) : sortOkB (txs ps) = true := by
  unfold sortOkB allAlikeB
  simp [alike, isPlain1, PyData.depth]
theorem sortL_strs (ps : List Str) : sortL (txs ps) = txs (ps.mergeSort leS) := by
  unfold sortL
  refine (List.map_mergeSort fun a _ b _ => ?_).symm
  show leS a b = !dataLt (.str b) (.str a)
  rw [dataLt_str, PySem.W.not_lt_str]
  rfl
theorem sortedD_strs (ps : List Str) : sortedD [.list (txs ps)] = some (.own (txs (ps.mergeSort leS))) := by
  unfold sortedD
  dsimp only
  rw [if_pos (sortOk_strs ps), sortL_strs]
theorem sortS_perm {ps qs : List Str} (h : ps.Perm qs) : ps.mergeSort leS = qs.mergeSort leS :=
  List.Perm.eq_of_pairwise (le := fun a b => leS a b = true) (fun a b _ _ h h' => leS_anti h h') (List.pairwise_mergeSort leS_trans leS_total ps) (List.pairwise_mergeSort leS_trans leS_total qs)
    ((List.mergeSort_perm ps leS).trans (h.trans (List.mergeSort_perm qs leS).symm))
theorem keyL_str {x : Str} (h : x.length ≤ sizeLine) : lenKey (.str x) = some (.tuple [.int x.length, .str x]) := by
  unfold lenKey
  dsimp only
  rw [if_pos h]
theorem sortedLen_strs {ps : List Str} (h : ∀ p ∈ ps, p.length ≤ sizeLine) : sortedLenD (txs ps) = some (.own (txs (ps.mergeSort leL))) := by
  have e1 : ((txs ps).all fun d => (lenKey d).isSome) = true := by
    rw [List.all_eq_true]
    intro d hd
    obtain ⟨p, hp, rfl⟩ := List.mem_map.mp hd
    rw [keyL_str (h p hp)]
    rfl
  have e2 : (txs ps).map keyL = ps.map fun p => .tuple [.int p.length, .str p] := by
    rw [List.map_map]
    refine List.map_congr_left fun p hp => ?_
    show (lenKey (.str p)).getD .none = _
    rw [keyL_str (h p hp)]
    rfl
  have e3 : sortOkB ((txs ps).map keyL) = true := by
    rw [e2]
    unfold sortOkB allAlikeB
    simp [alike, alikeAll, isTup1, PyData.depth, PyData.depthAll]
  unfold sortedLenD
  rw [e1, e3, if_pos (by rfl)]
  refine congrArg (fun z => some (SV.own z)) (List.map_mergeSort fun a ha b hb => ?_).symm
  show leL a b = !dataLt (keyL (.str b)) (keyL (.str a))
  unfold keyL
  rw [keyL_str (h a ha), keyL_str (h b hb)]
  show leL a b = !dataLt (.tuple [.int b.length, .str b]) (.tuple [.int a.length, .str a])
  rw [dataLt_pair (by simp [alike]) (by simp [alike]), dataLt_int, dataLt_str]
  simp only [PyData.eqv, beq_iff_eq]
  unfold leL
  by_cases h1 : b.length = a.length
  · by_cases h2 : b = a
    · subst h2; simp [List.le_refl]
    · have h3 : (b.length : Int) = (a.length : Int) := by omega
      rw [if_pos h3, if_neg (fun q => h2 (by simpa using q))]
      rw [PySem.W.not_lt_str]
      simp [h1]
  · have h3 : ¬ ((b.length : Int) = (a.length : Int)) := by omega
    rw [if_neg h3]
    by_cases h4 : a.length < b.length
    · have h5 : ¬ ((b.length : Int) < (a.length : Int)) := by omega
      have h6 : ¬ b.length < a.length := by omega
      simp [h4, h6]
    · have h5 : (b.length : Int) < (a.length : Int) := by omega
      have h6 : b.length < a.length := by omega
      have h7 : ¬ a.length = b.length := by omega
      simp [h4, h6, h7]
theorem eqvAll_strs : ∀ ps : List Str, PyData.eqvAll (txs ps) (txs ps) = true
  | [] => by simp [PyData.eqvAll]
  | p :: r => by
    have := eqvAll_strs r
    simp only [List.map_cons, PyData.eqvAll, PyData.eqv] at this ⊢
    simp [this]
theorem ne_strs (ps : List Str) : neD (.list (txs ps)) (.list (txs ps)) = some (.dat (.bool false)) := by
  have := depthAll_txs ps
  unfold neD
  rw [if_pos (by simp only [PyData.depth]; omega)]
  simp [PyData.eqv, eqvAll_strs]
end DL
set_option Elab.async false
set_option linter.all false
set_option maxRecDepth 100000
set_option maxHeartbeats 4000000
namespace K02
open PySem DL
theorem texts_of {b : Nat} : ∀ {ds : List D}, (∀ d ∈ ds, TextD b d) → ∃ ps : List Str, ds = txs ps ∧ ∀ p ∈ ps, p.length ≤ b
  | [], _ => ⟨[], rfl, fun _ h => by cases h⟩
  | d :: r, h => by
    obtain ⟨x, rfl, hx⟩ := h d List.mem_cons_self
    obtain ⟨ps, rfl, hp⟩ := texts_of (ds := r) fun d hd => h d (List.mem_cons_of_mem _ hd)
    refine ⟨x :: ps, rfl, fun p q => ?_⟩
    rcases List.mem_cons.mp q with rfl | q
    · exact hx
    · exact hp p q
theorem texts_to {b : Nat} {ps : List Str} (h : ∀ p ∈ ps, p.length ≤ b) : ∀ d ∈ txs ps, TextD b d := fun d hd => by
  obtain ⟨p, hp, rfl⟩ := List.mem_map.mp hd
  exact ⟨p, rfl, h p hp⟩
theorem cut_mem {α : Type} {xs : List α} {lo hi : Option Int} {x : α} (h : x ∈ cutL xs lo hi) : x ∈ xs := List.mem_of_mem_drop (List.mem_of_mem_take h)
theorem cut_len {α : Type} {xs : List α} {lo hi : Option Int} : (cutL xs lo hi).length ≤ xs.length := by
  unfold cutL
  rw [List.length_take, List.length_drop]
  omega
theorem sl (n : Nat) (h : n ≤ 1000) : n ≤ sizeLine := Nat.le_trans h (by decide)
theorem app_len {x y : Str} : (x ++ y).length = x.length + y.length := by
  show (x.cps ++ y.cps).size = _
  rw [Array.size_append]
  rfl
theorem cut1 {xs : List Str} : cutL xs (some 1) none = xs.tail := by
  unfold cutL
  rw [show HT.sIx xs.length xs.length none = xs.length from rfl, show HT.sIx xs.length 0 (some 1) = min 1 xs.length from rfl]
  cases xs with
  | nil => rfl
  | cons x r =>
    have e : min 1 (x :: r).length = 1 := by simp
    rw [e]
    simp
theorem cut_map {α β : Type} (f : α → β) {xs : List α} {lo hi : Option Int} : cutL (xs.map f) lo hi = (cutL xs lo hi).map f := by
  unfold cutL
  simp
/-- neighbours in order: the search finds nothing -/
theorem search_ok {hs : Hs} {Q : Fl × Envd × Hs → Prop} (t : XB) (m : XE) (i j : Nat) (P : Envd → Prop) : ∀ (qs : List Str) (env : Envd), P env → (∀ x y env, x ∈ qs → y ∈ qs → leL x y = true → P env → P ((env.set i (some (.dat (.str x)))).set j (some (.dat (.str y)))) ∧ t ((env.set i (some (.dat (.str x)))).set j (some (.dat (.str y)))) hs = .ok (false, hs)) →
    qs.Pairwise (fun a b => leL a b = true) → (∀ env, P env → Q (.nx, env, hs)) → W (xSearchL (gTu (gsCons (gNm i) (gsCons (gNm j) gsNil)) 2) t m (zipP (txs qs) (txs qs.tail)) env hs) Q
  | [], env, he, _, _, hQ => hQ env he
  | [x], env, he, _, _, hQ => hQ env he
  | x :: y :: r, env, he, h, hp, hQ => by
    have hxy : leL x y = true := (List.pairwise_cons.mp hp).1 y List.mem_cons_self
    obtain ⟨h1, h2⟩ := h x y env List.mem_cons_self (List.mem_cons_of_mem _ List.mem_cons_self) hxy he
    show W (xSearchL _ t m (.tuple [.str x, .str y] :: zipP (txs (y :: r)) (txs (y :: r).tail)) env hs) Q
    unfold xSearchL
    show W (bindE (t ((env.set i (some (.dat (.str x)))).set j (some (.dat (.str y)))) hs) _) Q
    rw [h2]
    rw [W_bindE, W_ok]
    dsimp only
    rw [if_neg Bool.false_ne_true]
    exact search_ok t m i j P (y :: r) _ h1 (fun a b e ha hb => h a b e (List.mem_cons_of_mem _ ha) (List.mem_cons_of_mem _ hb)) (List.pairwise_cons.mp hp).2 hQ
theorem order_spec {ps : List Str} {hs : Hs} (h : ∀ p ∈ ps, p.length ≤ 100) : m_in_order [.dat (.list (txs ps))] hs = .ok (.own (txs (ps.mergeSort leL)), hs) := by
  have e := sortedLen_strs (ps := ps) fun p hp => sl _ (Nat.le_trans (h p hp) (by decide))
  have : W (m_in_order [.dat (.list (txs ps))] hs) fun p => p = (.own (txs (ps.mergeSort leL)), hs) := by
    unfold m_in_order
    rw [W_fnX]
    simp [startE, e, -List.map_map]
  obtain ⟨a, e1, rfl⟩ := this.out
  exact e1
theorem math' (ns : List Int) (hn : ns.length ≤ 63) : W (m_law [.scr ns] []) fun p => p.1 = .dat (.bool true) := by
  unfold m_law
  rw [W_fnX, W_xSeq, xFor, W_bindE]
  have e0 : ∃ k : Nat, k ≤ 20 ∧ (if (if (ns.length : Int) < 20 then (ns.length : Int) else 20) > 1 then (if (ns.length : Int) < 20 then (ns.length : Int) else 20) else 1) = (k : Int) := by
    by_cases h : (ns.length : Int) < 20
    · rw [if_pos h]
      by_cases h2 : (ns.length : Int) > 1
      · rw [if_pos h2]; exact ⟨ns.length, by omega, rfl⟩
      · rw [if_neg h2]; exact ⟨1, by omega, rfl⟩
    · rw [if_neg h]; exact ⟨20, by omega, rfl⟩
  obtain ⟨k, hk, e0⟩ := e0
  refine W.mono (Q := fun p => p = (rangeD 0 1 k, [])) ?_ ?_
  · have := range1_ok (j := (k : Int)) (by omega) (by omega)
    simp [startE, minD, maxD]
    simp only [gt_iff_lt] at e0
    rw [e0, this]
    simp
  rintro p rfl
  dsimp only
  refine W_forL (dsAll := rangeD 0 1 k) (fun _ env _ => ∃ e1 e2 e3 e4 e5 e6 e7 e8 e9 e10, env = [some (.scr ns), e1, e2, e3, e4, e5, e6, e7, e8, e9, e10]) ?_ ?_ _ 0 _ _ rfl (Nat.zero_le _) ⟨none, none, none, none, none, none, none, none, none, none, rfl⟩
  · rintro i d env hs hd ⟨e1, e2, e3, e4, e5, e6, e7, e8, e9, e10, rfl⟩
    have hd' : ∃ j : Int, d = .int j ∧ 0 ≤ j ∧ j ≤ 63 := by
      unfold rangeD at hd
      rw [List.getElem?_map, Option.map_eq_some_iff] at hd
      obtain ⟨q, h1, rfl⟩ := hd
      have := (List.getElem?_eq_some_iff.mp h1)
      obtain ⟨h2, h3⟩ := this
      simp at h2 h3
      exact ⟨_, rfl, by omega, by omega⟩
    obtain ⟨j, rfl, j0, j1⟩ := hd'
    refine ⟨_, rfl, ?_⟩
    dsimp only [List.set]
    -- draws
    rw [W_xSeq]
    refine W.mono (Q := fun p => ∃ c, p.1 = .nx ∧ p.2.1 = [some (.scr ns), some (.dat (.int j)), some (.cell c), e3, e4, e5, e6, e7, e8, e9, e10] ∧ Cl c p.2.2) ?_ ?_
    · simp
      refine (draws_spec hn j0 j1).mono ?_
      rintro ⟨r, hs1⟩ ⟨rfl, c1⟩
      exact ⟨_, rfl, c1⟩
    rintro ⟨fl, env, hs1⟩ ⟨c, rfl, rfl, c1⟩
    dsimp only
    -- signs
    rw [W_xSeq]
    refine W.mono (Q := fun p => ∃ x : Str, p.1 = .nx ∧ p.2.1 = [some (.scr ns), some (.dat (.int j)), some (.cell c), some (.dat (.str x)), e4, e5, e6, e7, e8, e9, e10] ∧ Cl c p.2.2 ∧ 1 ≤ x.length ∧ x.length ≤ 4) ?_ ?_
    · simp
      refine (few_spec c1).mono ?_
      rintro ⟨r, hs1⟩ ⟨⟨x, rfl, x1, x2⟩, c1⟩
      exact ⟨x, rfl, c1, x1, x2⟩
    rintro ⟨fl, env, hs2⟩ ⟨x, rfl, rfl, c2, x1, x2⟩
    dsimp only
    -- paths
    rw [W_xSeq]
    refine W.mono (Q := fun p => ∃ ps : List Str, p.1 = .nx ∧ p.2.1 = [some (.scr ns), some (.dat (.int j)), some (.cell c), some (.dat (.str x)), some (.own (txs ps)), e5, e6, e7, e8, e9, e10] ∧ Cl c p.2.2 ∧ ps.length ≤ 7 ∧ ∀ q ∈ ps, q.length ≤ 16) ?_ ?_
    · simp [envF]
      refine (draw_spec (n := 8) c2 (by decide) (by decide)).mono ?_
      rintro ⟨r, hs3⟩ ⟨⟨f, rfl, f0, f1⟩, c3⟩
      simp [range1_ok (j := f) (by omega) (by omega)]
      refine (W_lcL (Cl c) (TextD 16) ?_ _ 0 hs3 (fun d hd => hd) (by rw [rangeD_len, Nat.zero_add]; exact sl _ (by omega)) c3).mono ?_
      · intro d hs4 _ c4
        refine ⟨_, rfl, ?_⟩
        simp [wipeE]
        refine (path_spec c4 x1 (by omega)).mono ?_
        rintro ⟨r, hs5⟩ ⟨⟨y, rfl, hy⟩, c5⟩
        exact ⟨_, rfl, ⟨_, rfl, hy⟩, c5⟩
      · rintro ⟨ds, hs4⟩ ⟨y1, y2, c4⟩
        rw [rangeD_len] at y2
        obtain ⟨ps, rfl, hp⟩ := texts_of y1
        simp at y2
        exact ⟨ps, rfl, c4, by omega, hp⟩
    rintro ⟨fl, env, hs3⟩ ⟨ps, rfl, rfl, c3, hl, hp⟩
    dsimp only
    -- more paths
    rw [W_xSeq]
    refine W.mono (Q := fun p => ∃ ps : List Str, p.1 = .nx ∧ p.2.1 = [some (.scr ns), some (.dat (.int j)), some (.cell c), some (.dat (.str x)), some (.own (txs ps)), e5, e6, e7, e8, e9, e10] ∧ ps.length ≤ 21 ∧ ∀ q ∈ ps, q.length ≤ 33) ?_ ?_
    · have g1 : ∀ d ∈ cutL (txs ps) none (some 2), ∃ q ∈ ps, d = .str q := fun d hd => by
        obtain ⟨q, h1, rfl⟩ := List.mem_map.mp (cut_mem hd)
        exact ⟨q, h1, rfl⟩
      have g2 : (cutL (txs ps) none (some 2)).length ≤ 7 := Nat.le_trans cut_len (by simpa using hl)
      simp [sliceD, itemsD, -List.map_map]
      refine (W_lcL (Cl c) (TextD 33) ?_ _ 0 hs3 (fun d hd => hd) (by rw [Nat.zero_add]; exact sl _ (by omega)) c3).mono ?_
      · intro d hs4 hd c4
        obtain ⟨q, hq, rfl⟩ := g1 d hd
        have hq2 := hp q hq
        have hq3 : (q ++ Str.ofString "/").length = q.length + 1 := by rw [app_len]; congr 1
        have hs1 : (1 : Nat) ≤ sizeLine := by decide
        have hs2 : q.length ≤ sizeLine := sl _ (by omega)
        have hs3 : q.length + 1 ≤ sizeLine := sl _ (by omega)
        have hq4 : (cutL q.cps.toList none (some 1)).length ≤ 16 := Nat.le_trans cut_len (by simpa [Str.length] using hq2)
        have hq5 : (⟨(cutL q.cps.toList none (some 1)).toArray⟩ : Str).length ≤ 16 := by simpa [Str.length] using hq4
        have hs4 : q.length + 1 + (⟨(cutL q.cps.toList none (some 1)).toArray⟩ : Str).length ≤ sizeLine := sl _ (by omega)
        have e1 : (Str.ofString "/").length = 1 := by decide +kernel
        refine ⟨_, rfl, ?_⟩
        simp [wipeE, sliceD, e1, hs2, hs3, hq3, hs4]
        exact ⟨⟨_, rfl, by rw [app_len, hq3]; omega⟩, c4⟩
      · rintro ⟨ds, hs4⟩ ⟨y1, y2, c4⟩
        obtain ⟨qs, rfl, hq⟩ := texts_of y1
        have y3 : qs.length ≤ 7 := by simp at y2 g2; omega
        have hz : ps.length + qs.length ≤ sizeLine := sl _ (by omega)
        simp [hz]
        refine (draw_spec (n := 3) c4 (by decide) (by decide)).mono ?_
        rintro ⟨r, hs5⟩ ⟨⟨f, rfl, f0, f1⟩, c5⟩
        have y4 : (cutL ps none (some f)).length ≤ ps.length := cut_len
        have hz2 : ps.length + qs.length + (cutL ps none (some f)).length ≤ sizeLine := sl _ (by omega)
        simp [sliceD, cut_map, hz2]
        refine ⟨ps ++ (qs ++ cutL ps none (some f)), by simp, by simp; omega, fun q h => ?_⟩
        rcases List.mem_append.mp h with h | h
        · exact Nat.le_trans (hp q h) (by decide)
        · rcases List.mem_append.mp h with h | h
          · exact hq q h
          · exact Nat.le_trans (hp q (cut_mem h)) (by decide)
    clear hl hp ps c3
    rintro ⟨fl, env, hs4⟩ ⟨ps, rfl, rfl, hl, hp⟩
    dsimp only
    -- kept, found
    rw [W_xSeq]
    refine W.mono (Q := fun p => p = (.nx, [some (.scr ns), some (.dat (.int j)), some (.cell c), some (.dat (.str x)), some (.own (txs ps)), some (.own (txs ps)), e6, e7, e8, e9, e10], hs4)) ?_ ?_
    · simp [listD]
    rintro p rfl
    dsimp only
    rw [W_xSeq]
    refine W.mono (Q := fun p => p = (.nx, [some (.scr ns), some (.dat (.int j)), some (.cell c), some (.dat (.str x)), some (.dat (.list (txs ps))), some (.own (txs ps)), some (.own (txs (ps.mergeSort leL))), e7, e8, e9, e10], hs4)) ?_ ?_
    · simp [envF, order_spec (fun p q => Nat.le_trans (hp p q) (by decide))]
    rintro p rfl
    dsimp only
    -- the tests
    rw [W_xSeq]
    refine W.mono (Q := fun p => p = (.nx, [some (.scr ns), some (.dat (.int j)), some (.cell c), some (.dat (.str x)), some (.dat (.list (txs ps))), some (.own (txs ps)), some (.own (txs (ps.mergeSort leL))), e7, e8, e9, e10], hs4)) ?_ ?_
    · have h1 := sortedD_strs (ps.mergeSort leL)
      have h2 := sortedD_strs ps
      rw [sortS_perm (List.mergeSort_perm ps leL)] at h1
      have h3 := ne_strs (ps.mergeSort leS)
      have h4 := ne_strs ps
      simp [PyData.isList, h1, h2, h3, h4, -List.map_map]
    rintro p rfl
    dsimp only
    -- the search
    rw [W_xSeq]
    refine W.mono (Q := fun p => ∃ d1 d2, p = (.nx, [some (.scr ns), some (.dat (.int j)), some (.cell c), some (.dat (.str x)), some (.dat (.list (txs ps))), some (.own (txs ps)), some (.own (txs (ps.mergeSort leL))), d1, d2, e9, e10], hs4)) ?_ ?_
    · unfold xSearchZip
      rw [W_bindE]
      refine W.mono (Q := fun p => p = ([.list (txs (ps.mergeSort leL)), .list (txs (ps.mergeSort leL).tail)], hs4)) ?_ ?_
      · simp [sliceD, cut1, cut_map, ← List.map_tail]
      rintro p rfl
      refine search_ok _ _ 7 8 (fun env => ∃ d1 d2, env = [some (.scr ns), some (.dat (.int j)), some (.cell c), some (.dat (.str x)), some (.dat (.list (txs ps))), some (.own (txs ps)), some (.own (txs (ps.mergeSort leL))), d1, d2, e9, e10]) (ps.mergeSort leL) _ ⟨e7, e8, rfl⟩ ?_ (List.pairwise_mergeSort leL_trans leL_total ps) ?_
      · rintro x' y env hx hy hxy ⟨d1, d2, rfl⟩
        refine ⟨⟨_, _, rfl⟩, ?_⟩
        have lx : x'.length ≤ sizeLine := sl _ (Nat.le_trans (hp x' ((List.mergeSort_perm ps leL).mem_iff.mp hx)) (by decide))
        have ly : y.length ≤ sizeLine := sl _ (Nat.le_trans (hp y ((List.mergeSort_perm ps leL).mem_iff.mp hy)) (by decide))
        have key : W (xOr (xTst (xBin gtD (xBo (xCal lenD (xConsB (xVarB 7) xNil))) (xBo (xCal lenD (xConsB (xVarB 8) xNil))))) (xAnd (xTst (xBin eqD (xBo (xCal lenD (xConsB (xVarB 7) xNil))) (xBo (xCal lenD (xConsB (xVarB 8) xNil))))) (xTst (xBin gtD (xVarB 7) (xVarB 8)))) [some (.scr ns), some (.dat (.int j)), some (.cell c), some (.dat (.str x)), some (.dat (.list (txs ps))), some (.own (txs ps)), some (.own (txs (ps.mergeSort leL))), some (.dat (.str x')), some (.dat (.str y)), e9, e10] hs4) fun p => p = (false, hs4) := by
          have heq : ∀ a b : Int, eqD (.int a) (.int b) = some (.dat (.bool (decide (a = b)))) := fun a b => by
            unfold eqD
            rw [if_pos (by simp [PyData.depth])]
            simp [PyData.eqv]
            rfl
          unfold leL at hxy
          rcases of_decide_eq_true hxy with h | ⟨h, h'⟩
          · have g1 : ¬ y.length < x'.length := by omega
            have g2 : ¬ x'.length = y.length := by omega
            have g3 : ¬ ((x'.length : Int) = (y.length : Int)) := by omega
            simp [lx, ly, heq, g1, g2, g3]
          · have g1 : ¬ y.length < x'.length := by omega
            have g4 : ¬ y.cps < x'.cps := fun q => List.not_lt.mpr h' q
            simp [lx, ly, heq, g1, h, g4]
        obtain ⟨a, e, rfl⟩ := key.out
        exact e
      · rintro env ⟨d1, d2, rfl⟩
        exact ⟨d1, d2, rfl⟩
    rintro p ⟨d1, d2, rfl⟩
    dsimp only
    -- the append, the last test
    have hsz : (ps.mergeSort leL).length < sizeLine := by rw [List.length_mergeSort]; exact Nat.lt_of_le_of_lt hl (by decide)
    rw [W_xSeq]
    refine W.mono (Q := fun p => ∃ d, p = (.nx, [some (.scr ns), some (.dat (.int j)), some (.cell c), some (.dat (.str x)), some (.dat (.list (txs ps))), some (.own (txs ps)), d, d1, d2, e9, e10], hs4)) ?_ ?_
    · have hsz' : ps.length < sizeLine := Nat.lt_of_le_of_lt hl (by decide)
      simp [hsz', -List.map_append]
    rintro p ⟨d, rfl⟩
    dsimp only
    have hi : ∀ n : Int, neD (.int n) (.int n) = some (.dat (.bool false)) := fun n => by
      unfold neD
      rw [if_pos (by simp [PyData.depth])]
      simp [PyData.eqv]
    simp [envF, order_spec (fun p q => Nat.le_trans (hp p q) (by decide)), hi]
  · rintro env hs ⟨e1, e2, e3, e4, e5, e6, e7, e8, e9, e10, rfl⟩
    simp
end K02
namespace K02
open PySem DL
theorem math (ns : List Int) (hn : ns.length ≤ 63) : ∃ hs, m_law [.scr ns] [] = .ok (.dat (.bool true), hs) := by
  obtain ⟨⟨r, hs⟩, e, h⟩ := (math' ns hn).out
  cases h
  exact ⟨hs, e⟩
end K02
open PySem PySem.W PyProof.Rows in
set_option maxRecDepth 100000 in
set_option maxHeartbeats 0 in
theorem PySem.Challenge.cw_lookdue_k02_paths_in_order_holds : PySem.Challenge.rw_lookdue_k02_paths_in_order.Holds := by
  w_on; o_law; k_head; (case hw => w_witness2)
  k_fill
  refine DL.walk_end (l := PySem.Challenge.rw_lookdue_k02_paths_in_order) (k := 5) (x := "_law_script") (m := K02.m_law) (g := fun K => ⟨K, [], fun _ => none⟩) rfl rfl ⟨rfl, by decide, by decide⟩ (fun _ => rfl) (fun _ => rfl) (fun _ _ => rfl) (fun w h Y => PySem.W.kIn_of Y) ?F K02.math
  case F =>
    intro w mg fa h KX G hmg
    refine' K02.all_mk KX G hmg ?x1 ?l1 ?c1 ?k1 ?x2 ?l2 ?c2 ?k2 ?x4 ?l4 ?c4 ?k4 ?x5 ?l5 ?c5 ?k5 ?x6 ?l6 ?c6 ?k6 ?x7 ?l7 ?c7 ?k7 ?x8 ?l8 ?c8 ?k8 ?x9 ?l9 ?c9 ?k9 ?x10 ?l10 ?c10 ?k10 ?x11 ?l11 ?c11 ?k11 ?z_int ?z_isinstance ?z_len ?z_list ?z_max ?z_min ?z_range ?z_sorted ?z_zip
    (case x1 => k_is)
    (case l1 => k_is)
    (case c1 => k_is)
    (case k1 => k_is)
    (case x2 => k_is)
    (case l2 => k_is)
    (case c2 => k_is)
    (case k2 => k_is)
    (case x4 => k_is)
    (case l4 => k_is)
    (case c4 => k_is)
    (case k4 => k_is)
    (case x5 => k_is)
    (case l5 => k_is)
    (case c5 => k_is)
    (case k5 => k_is)
    (case x6 => k_is)
    (case l6 => k_is)
    (case c6 => k_is)
    (case k6 => k_is)
    (case x7 => k_is)
    (case l7 => k_is)
    (case c7 => k_is)
    (case k7 => k_is)
    (case x8 => k_is)
    (case l8 => k_is)
    (case c8 => k_is)
    (case k8 => k_is)
    (case x9 => k_is)
    (case l9 => k_is)
    (case c9 => k_is)
    (case k9 => k_is)
    (case x10 => k_is)
    (case l10 => k_is)
    (case c10 => k_is)
    (case k10 => k_is)
    (case x11 => k_is)
    (case l11 => k_is)
    (case c11 => k_is)
    (case k11 => k_is)
    (case z_int => k_is)
    (case z_isinstance => k_is)
    (case z_len => k_is)
    (case z_list => k_is)
    (case z_max => k_is)
    (case z_min => k_is)
    (case z_range => k_is)
    (case z_sorted => k_is)
    (case z_zip => k_is)
