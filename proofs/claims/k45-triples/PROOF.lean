import PyProof.Rows.All
import Wide.All
import OpenK.AllK
import Wide.FinOn
import HandS.ForMost
import HandS.ForExc
import HandS.Wide
import HandS.Gcd
import HandS.Style
import HandS.TupAny
import HandS.IsInst
import HandS.Walk
import HandS.Flow
import HandS.CallSlots
import HandS.Text
import HandS.RaiseMore
import HandS.Star
import HandS.Defaults
import KE.KTupSum
import HandS.TryOnly
import HandS.Conv
import PyProof.StrBlock2
import PySem.Challenge.RW_fractiontrees_k45_triples
set_option Elab.async false
set_option linter.all false
set_option maxRecDepth 100000
set_option maxHeartbeats 4000000
/-! Fz1: values without the heap, a store, what a run gives; how they lie in the abstract heap. -/
namespace Fz
open PySem PySem.Spec PyProof.Rows L2

/-- a value, deep; ref: a cell of the store; fn: a def or class of the module by its name -/
inductive D where
  | non | bl (b : Bool) | int (i : Int) | str (x : List Nat) | tup (ds : List D) | frl (ds : List D) | ref (n : Nat) | fn (x : Str)
inductive Cell where
  | lst (ds : List D)
  | dk (kvs : List (Key × D))
abbrev Sto := List Cell
abbrev EnvD := List (Option D)
inductive R (α : Type) where
  | ok (a : α) (S : Sto)
  | exc (C : Str) (fs : List (Str × D)) (S : Sto)
  | stuck
def R.bind {α β : Type} (r : R α) (k : α → Sto → R β) : R β := match r with
  | .ok a S => k a S
  | .exc C fs S => .exc C fs S
  | .stuck => .stuck
@[simp] theorem bind_ok {α β : Type} (a : α) (S : Sto) (k : α → Sto → R β) : (R.ok a S).bind k = k a S := rfl
@[simp] theorem bind_exc {α β : Type} (C : Str) (fs : List (Str × D)) (S : Sto) (k : α → Sto → R β) : (R.exc C fs S).bind k = .exc C fs S := rfl
@[simp] theorem bind_stuck {α β : Type} (k : α → Sto → R β) : (R.stuck : R α).bind k = .stuck := rfl
theorem bind_assoc {α β γ : Type} (r : R α) (k : α → Sto → R β) (j : β → Sto → R γ) : (r.bind k).bind j = r.bind fun a S => (k a S).bind j := by cases r <;> rfl

/-- the written part and the module's names -/
structure Gm where
  K : PySem.W.Frag
  mg : Str → Option Value

/-- a list that is never written: the script, or one of the written part -/
def SqF (K : PySem.W.Frag) (H : Hp) (a : Addr) (xs : List V) : Prop :=
  (∃ o, H a = some (.frz o (.lst xs))) ∨
    ∃ (o : Obj) (its : Array Value) (n : Nat), K.lookup a = some o ∧ o.cls = .type "list" ∧ o.dict = none ∧ o.data = .seq its n ∧ its.size ≤ sizeLine ∧ Vals xs its.toList
theorem SqF.sql {K : PySem.W.Frag} {H : Hp} {a : Addr} {xs : List V} (h : SqF K H a xs) : SqL K H a xs := by
  rcases h with ⟨o, h⟩ | h
  · exact .inl (.inr ⟨o, h⟩)
  · exact .inr h

mutual
def RV (G : Gm) (ι : List Addr) (H : Hp) : D → V → Prop
  | .non, v => v = .non
  | .bl b, v => v = .bl b
  | .int i, v => v = .int i
  | .str x, v => v = .str ⟨x.toArray⟩
  | .tup ds, v => ∃ a vs, v = .ref a ∧ SqT G.K H a vs ∧ RVs G ι H ds vs
  | .frl ds, v => ∃ a vs, v = .ref a ∧ SqF G.K H a vs ∧ RVs G ι H ds vs
  | .ref n, v => ∃ a, ι[n]? = some a ∧ v = .ref a
  | .fn x, v => ∃ a, G.mg x = some (.ref a) ∧ v = .ref a
def RVs (G : Gm) (ι : List Addr) (H : Hp) : List D → List V → Prop
  | [], vs => vs = []
  | d :: ds, vs => ∃ v vr, vs = v :: vr ∧ RV G ι H d v ∧ RVs G ι H ds vr
end

/-- what a step may do to what was there -/
structure Ext0 (ι : List Addr) (H : Hp) (ι' : List Addr) (H' : Hp) : Prop where
  pre : ∀ (i : Nat) (a : Addr), ι[i]? = some a → ι'[i]? = some a
  tups : ∀ (a : Addr) (xs : List V), H a = some (.tup xs) → H' a = some (.tup xs)
  frzs : ∀ (a : Addr) (o : Obj) (u : HO), H a = some (.frz o u) → H' a = some (.frz o u)
structure Ext (ι : List Addr) (H : Hp) (ι' : List Addr) (H' : Hp) : Prop extends Ext0 ι H ι' H' where
  keep : ∀ (a : Addr) (o : HO), H a = some o → (∀ i : Nat, ι[i]? ≠ some a) → H' a = some o
  new : ∀ (i : Nat) (a : Addr), ι'[i]? = some a → (∃ j : Nat, ι[j]? = some a) ∨ H a = none
theorem Ext.refl (ι : List Addr) (H : Hp) : Ext ι H ι H := ⟨⟨fun _ _ e => e, fun _ _ e => e, fun _ _ _ e => e⟩, fun _ _ e _ => e, fun i _ e => .inl ⟨i, e⟩⟩
theorem Ext.back {ι ι1 ι2 : List Addr} {H H1 H2 : Hp} (x : Ext ι H ι1 H1) {a : Addr} (h : H1 a = none) : (∃ j : Nat, ι[j]? = some a) ∨ H a = none := by
  by_cases q : ∃ j : Nat, ι[j]? = some a
  · exact .inl q
  · cases e : H a with
    | none => exact .inr rfl
    | some o =>
      have := x.keep a o e (fun i z => q ⟨i, z⟩)
      rw [h] at this; cases this
theorem Ext.out {ι ι1 : List Addr} {H H1 : Hp} (x : Ext ι H ι1 H1) {a : Addr} {o : HO} (h : H a = some o) (n : ∀ i : Nat, ι[i]? ≠ some a) : ∀ i : Nat, ι1[i]? ≠ some a := fun i e => by
  rcases x.new i a e with ⟨j, q⟩ | q
  · exact n j q
  · rw [h] at q; cases q
theorem Ext.trans {ι ι1 ι2 : List Addr} {H H1 H2 : Hp} (a : Ext ι H ι1 H1) (b : Ext ι1 H1 ι2 H2) : Ext ι H ι2 H2 :=
  ⟨⟨fun i x e => b.pre i x (a.pre i x e), fun x xs e => b.tups x xs (a.tups x xs e), fun x o u e => b.frzs x o u (a.frzs x o u e)⟩,
    fun x o e n => b.keep x o (a.keep x o e n) (a.out e n), fun i x e => by
      rcases b.new i x e with ⟨j, q⟩ | q
      · exact a.new j x q
      · exact a.back (ι2 := ι2) (H2 := H2) q⟩

section
variable {G : Gm} {ι ι' : List Addr} {H H' : Hp}
theorem sqT_ext (e : Ext0 ι H ι' H') {a : Addr} {vs : List V} (h : SqT G.K H a vs) : SqT G.K H' a vs := by
  rcases h with (h | ⟨o, h⟩) | h
  · exact .inl (.inl (e.tups _ _ h))
  · exact .inl (.inr ⟨o, e.frzs _ _ _ h⟩)
  · exact .inr h
theorem sqF_ext (e : Ext0 ι H ι' H') {a : Addr} {vs : List V} (h : SqF G.K H a vs) : SqF G.K H' a vs := by
  rcases h with ⟨o, h⟩ | h
  · exact .inl ⟨o, e.frzs _ _ _ h⟩
  · exact .inr h
mutual
theorem RV.ext0 (e : Ext0 ι H ι' H') : ∀ (d : D) (v : V), RV G ι H d v → RV G ι' H' d v
  | .non, v, h => h
  | .bl b, v, h => h
  | .int i, v, h => h
  | .str x, v, h => h
  | .tup ds, v, h => by
    obtain ⟨a, vs, rfl, h1, h2⟩ := h
    exact ⟨a, vs, rfl, sqT_ext e h1, RVs.ext0 e ds vs h2⟩
  | .frl ds, v, h => by
    obtain ⟨a, vs, rfl, h1, h2⟩ := h
    exact ⟨a, vs, rfl, sqF_ext e h1, RVs.ext0 e ds vs h2⟩
  | .ref n, v, h => by
    obtain ⟨a, h1, rfl⟩ := h
    exact ⟨a, e.pre _ _ h1, rfl⟩
  | .fn x, v, h => h
theorem RVs.ext0 (e : Ext0 ι H ι' H') : ∀ (ds : List D) (vs : List V), RVs G ι H ds vs → RVs G ι' H' ds vs
  | [], vs, h => h
  | d :: ds, vs, h => by
    obtain ⟨v, vr, rfl, h1, h2⟩ := h
    exact ⟨v, vr, rfl, RV.ext0 e d v h1, RVs.ext0 e ds vr h2⟩
end
theorem RV.ext (e : Ext ι H ι' H') (d : D) (v : V) (h : RV G ι H d v) : RV G ι' H' d v := RV.ext0 e.toExt0 d v h
theorem RVs.ext (e : Ext ι H ι' H') (ds : List D) (vs : List V) (h : RVs G ι H ds vs) : RVs G ι' H' ds vs := RVs.ext0 e.toExt0 ds vs h
theorem RVs.length : ∀ {ds : List D} {vs : List V}, RVs G ι H ds vs → ds.length = vs.length
  | [], vs, h => by have e : vs = [] := h; subst e; rfl
  | d :: ds, vs, h => by
    obtain ⟨v, vr, rfl, h1, h2⟩ := h
    exact congrArg (· + 1) (RVs.length h2)
theorem RVs.get : ∀ {ds : List D} {vs : List V} {i : Nat} {d : D}, RVs G ι H ds vs → ds[i]? = some d → ∃ v, vs[i]? = some v ∧ RV G ι H d v
  | [], vs, i, d, h, e => by simp at e
  | d :: ds, vs, 0, d', h, e => by
    obtain ⟨v, vr, rfl, h1, h2⟩ := h
    simp at e; subst e
    exact ⟨v, rfl, h1⟩
  | d :: ds, vs, i + 1, d', h, e => by
    obtain ⟨v, vr, rfl, h1, h2⟩ := h
    obtain ⟨u, h3, h4⟩ := RVs.get (i := i) h2 (by simpa using e)
    exact ⟨u, by simpa using h3, h4⟩
theorem RVs.append : ∀ {ds es : List D} {vs us : List V}, RVs G ι H ds vs → RVs G ι H es us → RVs G ι H (ds ++ es) (vs ++ us)
  | [], es, vs, us, h, h' => by have e : vs = [] := h; subst e; exact h'
  | d :: ds, es, vs, us, h, h' => by
    obtain ⟨v, vr, rfl, h1, h2⟩ := h
    exact ⟨v, vr ++ us, rfl, h1, RVs.append h2 h'⟩
theorem RVs.set : ∀ {ds : List D} {vs : List V} {d : D} {v : V} (i : Nat), RVs G ι H ds vs → RV G ι H d v → RVs G ι H (ds.set i d) (vs.set i v)
  | [], vs, d, v, i, h, r => by have e : vs = [] := h; subst e; cases i <;> exact rfl
  | d :: ds, vs, d', v', 0, h, r => by
    obtain ⟨v, vr, rfl, h1, h2⟩ := h
    exact ⟨v', vr, rfl, r, h2⟩
  | d :: ds, vs, d', v', i + 1, h, r => by
    obtain ⟨v, vr, rfl, h1, h2⟩ := h
    exact ⟨v, vr.set i v', rfl, h1, RVs.set i h2 r⟩
theorem RVs.take : ∀ {ds : List D} {vs : List V} (n : Nat), RVs G ι H ds vs → RVs G ι H (ds.take n) (vs.take n)
  | ds, vs, 0, h => by simp; exact rfl
  | [], vs, n + 1, h => by have e : vs = [] := h; subst e; exact rfl
  | d :: ds, vs, n + 1, h => by
    obtain ⟨v, vr, rfl, h1, h2⟩ := h
    exact ⟨v, vr.take n, rfl, h1, RVs.take n h2⟩
theorem RVs.drop : ∀ {ds : List D} {vs : List V} (n : Nat), RVs G ι H ds vs → RVs G ι H (ds.drop n) (vs.drop n)
  | ds, vs, 0, h => h
  | [], vs, n + 1, h => by have e : vs = [] := h; subst e; exact rfl
  | d :: ds, vs, n + 1, h => by
    obtain ⟨v, vr, rfl, h1, h2⟩ := h
    exact RVs.drop n h2
theorem RVs.reverse : ∀ {ds : List D} {vs : List V}, RVs G ι H ds vs → RVs G ι H ds.reverse vs.reverse
  | [], vs, h => by have e : vs = [] := h; subst e; exact rfl
  | d :: ds, vs, h => by
    obtain ⟨v, vr, rfl, h1, h2⟩ := h
    rw [List.reverse_cons, List.reverse_cons]
    exact RVs.append (RVs.reverse h2) ⟨v, [], rfl, h1, rfl⟩
theorem RVs.ints : ∀ (ns : List Int), RVs G ι H (ns.map D.int) (ns.map V.int)
  | [] => rfl
  | n :: ns => ⟨.int n, ns.map V.int, rfl, rfl, RVs.ints ns⟩
theorem RVs.one {d : D} {v : V} (h : RV G ι H d v) : RVs G ι H [d] [v] := ⟨v, [], rfl, h, rfl⟩
theorem RVs.two {d e : D} {v u : V} (h : RV G ι H d v) (h' : RV G ι H e u) : RVs G ι H [d, e] [v, u] := ⟨v, [u], rfl, h, RVs.one h'⟩
theorem RVs.nil_of {ds : List D} (h : RVs G ι H ds []) : ds = [] := by
  cases ds with
  | nil => rfl
  | cons d ds => obtain ⟨v, vr, e, _⟩ := h; cases e
end

/-! ### the store -/
def RKV (G : Gm) (ι : List Addr) (H : Hp) : List (Key × D) → List (Key × V) → Prop
  | [], vs => vs = []
  | (k, d) :: r, vs => ∃ v vr, vs = (k, v) :: vr ∧ RV G ι H d v ∧ RKV G ι H r vr
def CellOk (G : Gm) (ι : List Addr) (H : Hp) (a : Addr) : Cell → Prop
  | .lst ds => ∃ vs, H a = some (.lst vs) ∧ RVs G ι H ds vs
  | .dk kvs => ∃ vs, H a = some (.dK vs) ∧ RKV G ι H kvs vs
structure Rep (G : Gm) (ι : List Addr) (H : Hp) (S : Sto) : Prop where
  len : ι.length = S.length
  inj : ∀ (i j : Nat) (a : Addr), ι[i]? = some a → ι[j]? = some a → i = j
  cell : ∀ (i : Nat) (c : Cell) (a : Addr), S[i]? = some c → ι[i]? = some a → CellOk G ι H a c
section
variable {G : Gm} {ι ι' : List Addr} {H H' : Hp} {S S' : Sto}
theorem RKV.ext (e : Ext0 ι H ι' H') : ∀ (ds : List (Key × D)) (vs : List (Key × V)), RKV G ι H ds vs → RKV G ι' H' ds vs
  | [], vs, h => h
  | (k, d) :: ds, vs, h => by
    obtain ⟨v, vr, rfl, h1, h2⟩ := h
    exact ⟨v, vr, rfl, RV.ext0 e d v h1, RKV.ext e ds vr h2⟩
theorem CellOk.live {a : Addr} {c : Cell} (h : CellOk G ι H a c) : ∃ o, H a = some o ∧ (∀ xs, o ≠ .tup xs) ∧ ∀ o' u, o ≠ .frz o' u := by
  cases c with
  | lst ds => obtain ⟨vs, h, _⟩ := h; exact ⟨_, h, fun _ e => HO.noConfusion e, fun _ _ e => HO.noConfusion e⟩
  | dk kvs => obtain ⟨vs, h, _⟩ := h; exact ⟨_, h, fun _ e => HO.noConfusion e, fun _ _ e => HO.noConfusion e⟩
theorem Rep.at (r : Rep G ι H S) {i : Nat} {c : Cell} (h : S[i]? = some c) : ∃ a, ι[i]? = some a ∧ CellOk G ι H a c := by
  have hi : i < S.length := by
    rcases Nat.lt_or_ge i S.length with h' | h'
    · exact h'
    · rw [List.getElem?_eq_none h'] at h; cases h
  have hi' : i < ι.length := by rw [r.len]; exact hi
  exact ⟨ι[i], by simp [hi'], r.cell i c _ h (by simp [hi'])⟩
theorem Rep.live (r : Rep G ι H S) {i : Nat} {a : Addr} (h : ι[i]? = some a) : ∃ o, H a = some o ∧ (∀ xs, o ≠ .tup xs) ∧ ∀ o' u, o ≠ .frz o' u := by
  have hi : i < ι.length := by
    rcases Nat.lt_or_ge i ι.length with h' | h'
    · exact h'
    · rw [List.getElem?_eq_none h'] at h; cases h
  have hi' : i < S.length := by rw [← r.len]; exact hi
  exact (r.cell i S[i] a (by simp [hi']) h).live
theorem Rep.fresh (r : Rep G ι H S) {p : Addr} (hp : H p = none) : ∀ i : Nat, ι[i]? ≠ some p := fun i e => by
  obtain ⟨o, h, _⟩ := r.live e
  rw [hp] at h; cases h
/-- what does not touch the cells, the tuples and the frozen -/
theorem CellOk.ext (e : Ext0 ι H ι' H') {a : Addr} {c : Cell} (h : CellOk G ι H a c) (k : H' a = H a) : CellOk G ι' H' a c := by
  cases c with
  | lst ds => obtain ⟨vs, h1, h2⟩ := h; exact ⟨vs, k.trans h1, RVs.ext0 e _ _ h2⟩
  | dk kvs => obtain ⟨vs, h1, h2⟩ := h; exact ⟨vs, k.trans h1, RKV.ext e _ _ h2⟩
/-- something new that is no cell is laid at p -/
theorem ext_upd {p : Addr} {o : HO} (hp : H p = none) : Ext ι H ι (upd H p o) :=
  ⟨⟨fun _ _ e => e, fun a xs e => by rw [upd_ne (ne_of_none e hp)]; exact e, fun a o u e => by rw [upd_ne (ne_of_none e hp)]; exact e⟩, fun a o e _ => by rw [upd_ne (ne_of_none e hp)]; exact e, fun i _ e => .inl ⟨i, e⟩⟩
theorem Rep.other (r : Rep G ι H S) {p : Addr} {o : HO} (hp : H p = none) : Rep G ι (upd H p o) S :=
  ⟨r.len, r.inj, fun i c a h1 h2 => (r.cell i c a h1 h2).ext (ext_upd hp).toExt0 (upd_ne (fun z => r.fresh hp i (z ▸ h2)))⟩
theorem get_push {p : Addr} {i : Nat} {a : Addr} (h : (ι ++ [p])[i]? = some a) : ι[i]? = some a ∨ (i = ι.length ∧ a = p) := by
  rw [List.getElem?_append] at h
  split at h
  · exact .inl h
  · rename_i hi
    have : i - ι.length = 0 := by
      rcases Nat.eq_zero_or_pos (i - ι.length) with z | z
      · exact z
      · rw [List.getElem?_eq_none (by show 1 ≤ _; exact z)] at h; cases h
    rw [this] at h
    simp at h
    exact .inr ⟨by omega, h.symm⟩
theorem ext_push {p : Addr} {o : HO} (hp : H p = none) : Ext ι H (ι ++ [p]) (upd H p o) :=
  ⟨⟨fun i a e => by
    have hi : i < ι.length := by
      rcases Nat.lt_or_ge i ι.length with h' | h'
      · exact h'
      · rw [List.getElem?_eq_none h'] at e; cases e
    rw [List.getElem?_append_left hi]; exact e, (ext_upd (ι := ι) hp).tups, (ext_upd (ι := ι) hp).frzs⟩, (ext_upd (ι := ι) hp).keep, fun i a e => by
      rcases get_push e with z | ⟨_, z⟩
      · exact .inl ⟨i, z⟩
      · exact .inr (z ▸ hp)⟩
theorem Rep.push (r : Rep G ι H S) {p : Addr} {o : HO} {c : Cell} (hp : H p = none) (hc : CellOk G (ι ++ [p]) (upd H p o) p c) : Rep G (ι ++ [p]) (upd H p o) (S ++ [c]) := by
  have e1 : ∀ (i : Nat) (a : Addr), (ι ++ [p])[i]? = some a → ι[i]? = some a ∨ (i = ι.length ∧ a = p) := fun i a h => get_push h
  refine ⟨by simp [r.len], fun i j a h1 h2 => ?_, fun i d a h1 h2 => ?_⟩
  · rcases e1 i a h1 with z | ⟨z1, z2⟩ <;> rcases e1 j a h2 with y | ⟨y1, y2⟩
    · exact r.inj i j a z y
    · exact absurd (y2 ▸ z) (r.fresh hp i)
    · exact absurd (z2 ▸ y) (r.fresh hp j)
    · omega
  · rcases e1 i a h2 with z | ⟨z1, z2⟩
    · have hi : i < S.length := by
        rw [← r.len]
        rcases Nat.lt_or_ge i ι.length with h' | h'
        · exact h'
        · rw [List.getElem?_eq_none h'] at z; cases z
      rw [List.getElem?_append_left hi] at h1
      exact (r.cell i d a h1 z).ext (ext_push hp).toExt0 (upd_ne fun q => r.fresh hp i (q ▸ z))
    · subst z2
      rw [z1, r.len] at h1
      simp at h1
      subst h1
      exact hc
/-- cell i is written -/
theorem ext_set (r : Rep G ι H S) {i : Nat} {a : Addr} {o : HO} (ha : ι[i]? = some a) : Ext ι H ι (upd H a o) := by
  obtain ⟨u, hu, h1, h2⟩ := r.live ha
  exact ⟨⟨fun _ _ e => e, fun b xs e => by rw [upd_ne (fun z => by rw [z, hu] at e; exact h1 xs (Option.some.inj e))]; exact e,
    fun b o' u' e => by rw [upd_ne (fun z => by rw [z, hu] at e; exact h2 o' u' (Option.some.inj e))]; exact e⟩, fun b o' e n => by rw [upd_ne (fun z => n i (by rw [z]; exact ha))]; exact e, fun i _ e => .inl ⟨i, e⟩⟩
theorem Rep.set (r : Rep G ι H S) {i : Nat} {a : Addr} {o : HO} {c : Cell} (ha : ι[i]? = some a) (hc : CellOk G ι (upd H a o) a c) : Rep G ι (upd H a o) (S.set i c) := by
  refine ⟨by simp [r.len], r.inj, fun j d b h1 h2 => ?_⟩
  by_cases hj : i = j
  · subst hj
    rw [ha] at h2
    have e : a = b := Option.some.inj h2
    subst e
    have hi : i < S.length := by
      rcases Nat.lt_or_ge i S.length with h' | h'
      · exact h'
      · rw [List.getElem?_eq_none (by simpa using h')] at h1; cases h1
    rw [List.getElem?_set_self hi] at h1
    cases h1
    exact hc
  · rw [List.getElem?_set_ne hj] at h1
    exact (r.cell j d b h1 h2).ext (ext_set r ha).toExt0 (upd_ne fun z => hj (r.inj i j a ha (z ▸ h2)))
/-- a list that is no cell is written -/
theorem ext0_off {p : Addr} {vs us : List V} (hp : H p = some (.lst vs)) : Ext0 ι H ι (upd H p (.lst us)) :=
  ⟨fun _ _ e => e, fun b xs e => by rw [upd_ne (fun z => by rw [z, hp] at e; cases e)]; exact e, fun b o u e => by rw [upd_ne (fun z => by rw [z, hp] at e; cases e)]; exact e⟩
theorem Rep.off (r : Rep G ι H S) {p : Addr} {vs us : List V} (hp : H p = some (.lst vs)) (n : ∀ i : Nat, ι[i]? ≠ some p) : Rep G ι (upd H p (.lst us)) S :=
  ⟨r.len, r.inj, fun i c a h1 h2 => (r.cell i c a h1 h2).ext (ext0_off hp) (upd_ne fun z => n i (by rw [← z]; exact h2))⟩
/-- .. it becomes a cell -/
theorem Rep.take_in (r : Rep G ι H S) {p : Addr} {c : Cell} (n : ∀ i : Nat, ι[i]? ≠ some p) (hc : CellOk G (ι ++ [p]) H p c) : Rep G (ι ++ [p]) H (S ++ [c]) := by
  have x0 : Ext0 ι H (ι ++ [p]) H := ⟨fun i a e => by
    have hi : i < ι.length := by
      rcases Nat.lt_or_ge i ι.length with h' | h'
      · exact h'
      · rw [List.getElem?_eq_none h'] at e; cases e
    rw [List.getElem?_append_left hi]; exact e, fun _ _ e => e, fun _ _ _ e => e⟩
  refine ⟨by simp [r.len], fun i j a h1 h2 => ?_, fun i d a h1 h2 => ?_⟩
  · rcases get_push h1 with z | ⟨z1, z2⟩ <;> rcases get_push h2 with y | ⟨y1, y2⟩
    · exact r.inj i j a z y
    · exact absurd (y2 ▸ z) (n i)
    · exact absurd (z2 ▸ y) (n j)
    · omega
  · rcases get_push h2 with z | ⟨z1, z2⟩
    · have hi : i < S.length := by
        rw [← r.len]
        rcases Nat.lt_or_ge i ι.length with h' | h'
        · exact h'
        · rw [List.getElem?_eq_none h'] at z; cases z
      rw [List.getElem?_append_left hi] at h1
      exact (r.cell i d a h1 z).ext x0 rfl
    · subst z2
      rw [z1, r.len] at h1
      simp at h1
      subst h1
      exact hc
/-- the last cells are forgotten -/
theorem Rep.take (r : Rep G ι H S) (n : Nat) (h : ∀ (i : Nat) (c : Cell) (a : Addr), (S.take n)[i]? = some c → ι[i]? = some a → CellOk G (ι.take n) H a c) : Rep G (ι.take n) H (S.take n) := by
  have e1 : ∀ (i : Nat) (a : Addr), (ι.take n)[i]? = some a → ι[i]? = some a := fun i a h => by
    rw [List.getElem?_take] at h
    split at h
    · exact h
    · cases h
  exact ⟨by simp [r.len], fun i j a h1 h2 => r.inj i j a (e1 i a h1) (e1 j a h2), fun i c a h1 h2 => h i c a h1 (e1 i a h2)⟩
end

/-! ### the frame -/
structure EnvR (G : Gm) (ι : List Addr) (H : Hp) (env : EnvD) (σ : L2.St) : Prop where
  len : env.length = σ.length
  at_ : ∀ (i : Nat) (d : D), env[i]? = some (some d) → ∃ v, σ[i]? = some (some v) ∧ RV G ι H d v
section
variable {G : Gm} {ι ι' : List Addr} {H H' : Hp} {env : EnvD} {σ : L2.St}
theorem EnvR.ext0 (e : Ext0 ι H ι' H') (h : EnvR G ι H env σ) : EnvR G ι' H' env σ :=
  ⟨h.len, fun i d q => let ⟨v, h1, h2⟩ := h.at_ i d q; ⟨v, h1, RV.ext0 e d v h2⟩⟩
theorem EnvR.ext (e : Ext ι H ι' H') (h : EnvR G ι H env σ) : EnvR G ι' H' env σ := EnvR.ext0 e.toExt0 h
theorem EnvR.set (h : EnvR G ι H env σ) (i : Nat) {d : D} {v : V} (r : RV G ι H d v) : EnvR G ι H (env.set i (some d)) (σ.set i (some v)) := by
  refine ⟨by simp [h.len], fun j d' q => ?_⟩
  by_cases hj : i = j
  · subst hj
    have hi : i < env.length := by
      rcases Nat.lt_or_ge i env.length with h' | h'
      · exact h'
      · rw [List.getElem?_eq_none (by simpa using h')] at q; cases q
    rw [List.getElem?_set_self hi] at q
    cases q
    exact ⟨v, by rw [List.getElem?_set_self (by rw [← h.len]; exact hi)], r⟩
  · rw [List.getElem?_set_ne hj] at q
    obtain ⟨u, h1, h2⟩ := h.at_ j d' q
    exact ⟨u, by rw [List.getElem?_set_ne hj]; exact h1, h2⟩
end
end Fz

/-! Fz2: what a run's result asks of the abstract heap; expressions, tests, arguments. -/
namespace Fz
open PySem PySem.Spec PyProof.Rows L2

abbrev WP := Value → Option Addr → Hp → Prop
/-- an exception's fields at its dict -/
def RF (G : Gm) (ι : List Addr) (H : Hp) : List (Str × D) → List (Str × V) → Prop
  | [], vs => vs = []
  | (x, d) :: r, vs => ∃ v vr, vs = (x, v) :: vr ∧ RV G ι H d v ∧ RF G ι H r vr
def Post (G : Gm) {α β : Type} (Rel : List Addr → Hp → α → β → Prop) (W : WP) (ι : List Addr) (H : Hp) (r : R α) (Q : β → Hp → Prop) : Prop := match r with
  | .ok d S' => ∀ v H' ι', Ext ι H ι' H' → Rep G ι' H' S' → Rel ι' H' d v → Q v H'
  | .exc C fs S' => ∀ c dx fv H' ι', G.mg C = some (.ref c) → Ext ι H ι' H' → Rep G ι' H' S' → H' dx = some (.xd fv) → RF G ι' H' fs fv → W (.ref c) (some dx) H'
  | .stuck => False
section
variable {G : Gm} {α β α' β' : Type} {Rel : List Addr → Hp → α → β → Prop} {Rel' : List Addr → Hp → α' → β' → Prop} {W : WP} {ι ι' : List Addr} {H H' : Hp}
theorem Post.imp {r : R α} {Q Q' : β → Hp → Prop} (h : Post G Rel W ι H r Q) (k : ∀ v H', Q v H' → Q' v H') : Post G Rel W ι H r Q' := by
  cases r with
  | ok d S' => exact fun v H' ι' e p q => k v H' (h v H' ι' e p q)
  | exc C fs S' => exact h
  | stuck => exact h
theorem Post.mono {r : R α} {Q : β → Hp → Prop} (e : Ext ι H ι' H') (h : Post G Rel W ι H r Q) : Post G Rel W ι' H' r Q := by
  cases r with
  | ok d S' => exact fun v H2 ι2 e2 p q => h v H2 ι2 (e.trans e2) p q
  | exc C fs S' => exact fun c dx fv H2 ι2 m e2 p q z => h c dx fv H2 ι2 m (e.trans e2) p q z
  | stuck => exact h
theorem Post.bind {r : R α} {k : α → Sto → R α'} {Q : β' → Hp → Prop} (h : Post G Rel' W ι H (r.bind k) Q) :
    Post G Rel W ι H r (fun v H' => ∃ d S' ι', Ext ι H ι' H' ∧ Rep G ι' H' S' ∧ Rel ι' H' d v ∧ Post G Rel' W ι' H' (k d S') Q) := by
  cases r with
  | ok d S' => exact fun v H' ι' e p q => ⟨d, S', ι', e, p, q, Post.mono e h⟩
  | exc C fs S' => exact h
  | stuck => exact h
theorem Post.wp {r : R α} {W' : WP} {Q : β → Hp → Prop} (h : Post G Rel W ι H r Q) (k : ∀ c d H', W c d H' → W' c d H') : Post G Rel W' ι H r Q := by
  cases r with
  | ok d S' => exact h
  | exc C fs S' => exact fun c dx fv H' ι' m e p q z => k _ _ _ (h c dx fv H' ι' m e p q z)
  | stuck => exact h
end
abbrev E := EnvD → Sto → R D
abbrev T := EnvD → Sto → R Bool
abbrev As := EnvD → Sto → R (List D)
def RB (_ : List Addr) (_ : Hp) (b c : Bool) : Prop := b = c
def gm (X : Cx) : Gm := ⟨X.K, X.mg⟩
/-- a wish at the slots -/
abbrev WS := Value → Option Addr → L2.St → Hp → Prop
def tE (G : Gm) (W : WS) (f : E) : TE := fun σ H Q => ∃ ι env S, Rep G ι H S ∧ EnvR G ι H env σ ∧ Post G (RV G) (fun c d H' => W c d σ H') ι H (f env S) Q
def tT (G : Gm) (W : WS) (f : T) : TT := fun σ H Q => ∃ ι env S, Rep G ι H S ∧ EnvR G ι H env σ ∧ Post G RB (fun c d H' => W c d σ H') ι H (f env S) Q
def tA (G : Gm) (W : WS) (f : As) : TA := fun σ H Q => ∃ ι env S, Rep G ι H S ∧ EnvR G ι H env σ ∧ Post G (RVs G) (fun c d H' => W c d σ H') ι H (f env S) Q
/-- e does as f -/
structure FE (X : Cx) (W : WS) (e : Expr) (f : E) : Prop where
  pe : PE X e (tE (gm X) W f)
structure FT (X : Cx) (W : WS) (e : Expr) (f : T) : Prop where
  pt : PT X e (tT (gm X) W f)
structure FA (X : Cx) (W : WS) (es : List Expr) (f : As) : Prop where
  pa : PA X es (tA (gm X) W f)
section
variable {X : Cx} {t t' : TE} {e : Expr}
theorem PE.weak (h : PE X e t) (k : ∀ σ H Q, t' σ H Q → t σ H Q) : PE X e t' := ⟨fun pins s σ H Q I q => h.run pins s σ H Q I (k σ H Q q)⟩
theorem PT.weak {t t' : TT} (h : PT X e t) (k : ∀ σ H Q, t' σ H Q → t σ H Q) : PT X e t' := ⟨fun pins s σ H Q I q => h.run pins s σ H Q I (k σ H Q q)⟩
theorem PW.weak {t t' : TT} (h : PW X e t) (k : ∀ σ H Q, t' σ H Q → t σ H Q) : PW X e t' := ⟨fun w pins s σ H Q I q => h.run w pins s σ H Q I (k σ H Q q)⟩
theorem PA.weak {es : List Expr} {t t' : TA} (h : PA X es t) (k : ∀ σ H Q, t' σ H Q → t σ H Q) : PA X es t' := ⟨fun pos pins s σ H Q I q => h.run pos pins s σ H Q I (k σ H Q q)⟩
theorem PS.weak {st : Stmt} {t t' : TS} (h : PS X st t) (k : ∀ D σ H, t' D σ H → t D σ H) : PS X st t' := ⟨fun pins s σ H D I q => h.run pins s σ H D I (k D σ H q)⟩
theorem PSs.weak {st : List Stmt} {t t' : TS} (h : PSs X st t) (k : ∀ D σ H, t' D σ H → t D σ H) : PSs X st t' := ⟨fun pins s σ H D I q => h.run pins s σ H D I (k D σ H q)⟩
end

/-! ### names, constants -/
def eVar (i : Nat) : E := fun env S => match env[i]? with
  | some (some d) => .ok d S
  | _ => .stuck
def eC (d : D) : E := fun _ S => .ok d S
def e1 (f : D → Sto → R D) (a : E) : E := fun env S => (a env S).bind f
def e2 (f : D → D → Sto → R D) (a b : E) : E := fun env S => (a env S).bind fun x S1 => (b env S1).bind fun y S2 => f x y S2
def eN (f : List D → Sto → R D) (as : As) : E := fun env S => (as env S).bind f
def aNil : As := fun _ S => .ok [] S
def aCons (a : E) (r : As) : As := fun env S => (a env S).bind fun x S1 => (r env S1).bind fun xs S2 => .ok (x :: xs) S2
section
variable {X : Cx} {W : WS} {e a b : Expr} {f fa fb : E} {pos : Pos}
theorem fe_var (i : Nat) {x : Str} (hN : X.N[i]? = some x := by rfl) (hv : Vis X.env.scope x := by first | exact Or.inl rfl | exact Or.inr (Or.inl rfl) | exact Or.inr (Or.inr rfl)) (hd : (x == ("__debug__" : Str)) = false := by decide)
    (hcd : (x == ("__classdict__" : Str)) = false := by decide) : FE X W (.Name x pos) (eVar i) := by
  refine ⟨PE.weak (pe_var hN hv hd hcd) fun σ H Q h => ?_⟩
  obtain ⟨ι, env, S, rep, er, p⟩ := h
  unfold eVar at p
  split at p
  · rename_i d hd'
    obtain ⟨v, h1, h2⟩ := er.at_ i d hd'
    exact ⟨v, h1, p v H ι (Ext.refl _ _) rep h2⟩
  · exact p.elim
theorem constE {d : D} {v : V} (h : PE X e (tC v)) (r : ∀ ι H, RV (gm X) ι H d v) : FE X W e (eC d) := by
  refine ⟨PE.weak h fun σ H Q h => ?_⟩
  obtain ⟨ι, env, S, rep, er, p⟩ := h
  exact p v H ι (Ext.refl _ _) rep (r ι H)
theorem fe_int {i : Int} {j} : FE X W (.Constant (.int i) j pos) (eC (.int i)) := constE pe_int fun _ _ => rfl
theorem fe_bl {b : Bool} {j} : FE X W (.Constant (.bool b) j pos) (eC (.bl b)) := constE pe_bl fun _ _ => rfl
theorem fe_non {j} : FE X W (.Constant .none j pos) (eC .non) := constE pe_non fun _ _ => rfl
theorem fe_str {x : Str} {l : List Nat} {j} (hx : x = ⟨l.toArray⟩ := by rfl) : FE X W (.Constant (.str x) j pos) (eC (.str l)) := constE pe_str fun _ _ => by rw [hx]; exact rfl
/-- a module's constant that is no object -/
theorem fe_gint {x : Str} {i : Int} {t : Tok} (hm : X.mg x = some (.int i t)) (hg : Gl X x := by rfl) (hd : (x == ("__debug__" : Str)) = false := by decide) : FE X W (.Name x pos) (eC (.int i)) :=
  constE (pe_glob (v := .int i) hg hm ⟨t, rfl⟩ hd) fun _ _ => rfl
theorem fe_gstr {x : Str} {z : Str} {l : List Nat} {t : Tok} (hm : X.mg x = some (.str z t)) (hx : z = ⟨l.toArray⟩) (hg : Gl X x := by rfl) (hd : (x == ("__debug__" : Str)) = false := by decide) : FE X W (.Name x pos) (eC (.str l)) :=
  constE (pe_glob (v := .str z) hg hm ⟨t, rfl⟩ hd) fun _ _ => by rw [hx]; exact rfl
theorem fe_gref {x : Str} {d : D} {a : Addr} (hm : X.mg x = some (.ref a)) (hr : ∀ ι H, RV (gm X) ι H d (.ref a)) (hg : Gl X x := by rfl) (hd : (x == ("__debug__" : Str)) = false := by decide) : FE X W (.Name x pos) (eC d) :=
  constE (pe_glob (v := .ref a) hg hm rfl hd) hr

/-! ### value-level operations -/
/-- f on one value is told by the reading r -/
def V1 (G : Gm) (f : D → Sto → R D) (r : V → Hp → VK → Prop) : Prop := ∀ (W : WP) (ι : List Addr) (H : Hp) (S : Sto) (d : D) (v : V) (Q : VK), Rep G ι H S → RV G ι H d v → Post G (RV G) W ι H (f d S) Q → r v H Q
def V2 (G : Gm) (f : D → D → Sto → R D) (r : R2) : Prop := ∀ (W : WP) (ι : List Addr) (H : Hp) (S : Sto) (d e : D) (v u : V) (Q : VK), Rep G ι H S → RV G ι H d v → RV G ι H e u → Post G (RV G) W ι H (f d e S) Q → r v u H Q
def VN (G : Gm) (f : List D → Sto → R D) (r : List V → Hp → VK → Prop) : Prop := ∀ (W : WP) (ι : List Addr) (H : Hp) (S : Sto) (ds : List D) (vs : List V) (Q : VK), Rep G ι H S → RVs G ι H ds vs → Post G (RV G) W ι H (f ds S) Q → r vs H Q
theorem one_t {r : V → Hp → VK → Prop} {g : D → Sto → R D} {σ : L2.St} {H : Hp} {Q : VK} (hf : V1 (gm X) g r) (h : tE (gm X) W (e1 g fa) σ H Q) : tE (gm X) W fa σ H fun x H1 => r x H1 Q := by
  obtain ⟨ι, env, S, rep, er, p⟩ := h
  refine ⟨ι, env, S, rep, er, Post.imp (Post.bind p) fun x H1 q => ?_⟩
  obtain ⟨d, S1, ι1, _, rep1, rv, q⟩ := q
  exact hf _ ι1 H1 S1 d x Q rep1 rv q
theorem two_t {r : R2} {g : D → D → Sto → R D} {σ : L2.St} {H : Hp} {Q : VK} (hf : V2 (gm X) g r) (h : tE (gm X) W (e2 g fa fb) σ H Q) :
    tE (gm X) W fa σ H fun x H1 => tE (gm X) W fb σ H1 fun y H2 => r x y H2 Q := by
  obtain ⟨ι, env, S, rep, er, p⟩ := h
  refine ⟨ι, env, S, rep, er, Post.imp (Post.bind p) fun x H1 q => ?_⟩
  obtain ⟨d, S1, ι1, e1, rep1, rv, q⟩ := q
  refine ⟨ι1, env, S1, rep1, er.ext e1, Post.imp (Post.bind q) fun y H2 q2 => ?_⟩
  obtain ⟨d2, S2, ι2, e2, rep2, rv2, q2⟩ := q2
  exact hf _ ι2 H2 S2 d d2 x y Q rep2 (RV.ext e2 _ _ rv) rv2 q2
theorem args_t {r : List V → Hp → VK → Prop} {fs : As} {g : List D → Sto → R D} {σ : L2.St} {H : Hp} {Q : VK} (hf : VN (gm X) g r) (h : tE (gm X) W (eN g fs) σ H Q) : tA (gm X) W fs σ H fun xs H1 => r xs H1 Q := by
  obtain ⟨ι, env, S, rep, er, p⟩ := h
  refine ⟨ι, env, S, rep, er, Post.imp (Post.bind p) fun x H1 q => ?_⟩
  obtain ⟨d, S1, ι1, _, rep1, rv, q⟩ := q
  exact hf _ ι1 H1 S1 d x Q rep1 rv q
theorem fe_op {op : Operator} {r : R2} {g : D → D → Sto → R D} (ho : OpR X (binaryOp op) r) (hf : V2 (gm X) g r) (ha : FE X W a fa) (hb : FE X W b fb) : FE X W (.BinOp a op b pos) (e2 g fa fb) :=
  ⟨PE.weak (pe_op ho ha.pe hb.pe) fun _ _ _ h => two_t hf h⟩
theorem fe_un {op : UnaryOp} {r : V → Hp → VK → Prop} {g : D → Sto → R D} (ho : UnR X (unaryOp op) r) (hf : V1 (gm X) g r) (ha : FE X W a fa) : FE X W (.UnaryOp op a pos) (e1 g fa) :=
  ⟨PE.weak (pe_un ho ha.pe) fun _ _ _ h => one_t hf h⟩
theorem fe_cmp {op : CmpOp} {r : R2} {g : D → D → Sto → R D} (ho : OpR X (compareOp op) r) (hf : V2 (gm X) g r) (ha : FE X W a fa) (hb : FE X W b fb) (hm : behindInMarks op b = false) : FE X W (.Compare a [op] [b] pos) (e2 g fa fb) :=
  ⟨PE.weak (pe_cmpR ho ha.pe hb.pe hm) fun _ _ _ h => two_t hf h⟩
theorem fe_ix {r : R2} {g : D → D → Sto → R D} (ho : IxR X r) (hf : V2 (gm X) g r) (ha : FE X W a fa) (hb : FE X W b fb) (hs : PlainIx b) : FE X W (.Subscript a b pos) (e2 g fa fb) :=
  ⟨PE.weak (pe_ix ho ha.pe hb.pe hs) fun _ _ _ h => two_t hf h⟩

/-! ### arguments, displays, calls of built-ins -/
theorem fa_nil : FA X W [] aNil := by
  refine ⟨PA.weak pa_nil fun σ H Q h => ?_⟩
  obtain ⟨ι, env, S, rep, er, p⟩ := h
  exact p [] H ι (Ext.refl _ _) rep rfl
theorem fa_cons {es : List Expr} {fs : As} (ha : FE X W e fa) (hr : FA X W es fs) (hs : starEach (e :: es) X.env = (false, eval e X.env) :: starEach es X.env := by rfl) : FA X W (e :: es) (aCons fa fs) := by
  refine ⟨PA.weak (pa_cons ha.pe hr.pa hs) fun σ H Q h => ?_⟩
  obtain ⟨ι, env, S, rep, er, p⟩ := h
  refine ⟨ι, env, S, rep, er, Post.imp (Post.bind p) fun x H1 q => ?_⟩
  obtain ⟨d, S1, ι1, e1, rep1, rv, q⟩ := q
  refine ⟨ι1, env, S1, rep1, er.ext e1, Post.imp (Post.bind q) fun xs H2 q2 => ?_⟩
  obtain ⟨ds, S2, ι2, e2, rep2, rvs, q2⟩ := q2
  exact q2 (x :: xs) H2 ι2 (Ext.refl _ _) rep2 ⟨x, xs, rfl, RV.ext e2 _ _ rv, rvs⟩
def LINE : Nat := 16777216
theorem line_eq : LINE = sizeLine := sizeLine_eq.symm
def vTup (ds : List D) (S : Sto) : R D := if ds.length ≤ LINE then .ok (.tup ds) S else .stuck
def vLst (ds : List D) (S : Sto) : R D := if ds.length ≤ LINE then .ok (.ref S.length) (S ++ [.lst ds]) else .stuck
theorem post_tup {G : Gm} {Wp : WP} {ι : List Addr} {H : Hp} {S : Sto} {ds : List D} {vs : List V} {Q : VK} {p : Addr} (rep : Rep G ι H S) (rvs : RVs G ι H ds vs) (hp : H p = none)
    (q : ∀ v H' ι', Ext ι H ι' H' → Rep G ι' H' S → RV G ι' H' (.tup ds) v → Q v H') : Q (.ref p) (upd H p (.tup vs)) :=
  q _ _ ι (ext_upd hp) (rep.other hp) ⟨p, vs, rfl, .inl (.inl upd_same), RVs.ext (ext_upd hp) _ _ rvs⟩
theorem post_lst {G : Gm} {ι : List Addr} {H : Hp} {S : Sto} {ds : List D} {vs : List V} {Q : VK} {p : Addr} (rep : Rep G ι H S) (rvs : RVs G ι H ds vs) (hp : H p = none)
    (q : ∀ v H' ι', Ext ι H ι' H' → Rep G ι' H' (S ++ [.lst ds]) → RV G ι' H' (.ref S.length) v → Q v H') : Q (.ref p) (upd H p (.lst vs)) :=
  q _ _ (ι ++ [p]) (ext_push hp) (rep.push hp ⟨vs, upd_same, RVs.ext (ext_push hp) _ _ rvs⟩) ⟨p, by rw [← rep.len]; simp, rfl⟩
theorem fe_tup {es : List Expr} {fs : As} {j} (h : FA X W es fs) : FE X W (.Tuple es j pos) (eN vTup fs) := by
  refine ⟨PE.weak (pe_tup h.pa) fun σ H Q h => ?_⟩
  refine args_t (r := fun xs H1 Q => xs.length ≤ sizeLine ∧ ∀ p, H1 p = none → Q (.ref p) (upd H1 p (.tup xs))) (fun Wp ι H S ds vs Q rep rvs q => ?_) h
  unfold vTup at q
  split at q
  · rename_i hl
    exact ⟨by rw [← rvs.length, ← line_eq]; exact hl, fun p hp => post_tup (Wp := Wp) rep rvs hp q⟩
  · exact q.elim
theorem fe_lst {es : List Expr} {fs : As} (h : FA X W es fs) : FE X W (.List es pos) (eN vLst fs) := by
  refine ⟨PE.weak (pe_lst h.pa) fun σ H Q h => ?_⟩
  refine args_t (r := fun xs H1 Q => xs.length ≤ sizeLine ∧ ∀ p, H1 p = none → Q (.ref p) (upd H1 p (.lst xs))) (fun Wp ι H S ds vs Q rep rvs q => ?_) h
  unfold vLst at q
  split at q
  · rename_i hl
    exact ⟨by rw [← rvs.length, ← line_eq]; exact hl, fun p hp => post_lst rep rvs hp q⟩
  · exact q.elim
theorem fe_callB {id : String} {x : Str} {p : Pos} {es : List Expr} {fs : As} {r : List V → Hp → VK → Prop} {g : List D → Sto → R D} (hc : CallR X (.builtin id) r) (hf : VN (gm X) g r) (hm : X.mg x = none) (hv : bootBuiltins x = some (.builtin id)) (ha : FA X W (e :: es) fs) (hg : Gl X x := by rfl)
    (hn : x ≠ "__name__" := by decide) (hdb : (x == ("__debug__" : Str)) = false := by decide)
    (he : starEach (e :: es) X.env = (false, eval e X.env) :: starEach es X.env := by rfl) (hpl : (backTo pos (starEach es X.env)).any (·.1) = false := by rfl) : FE X W (.Call (.Name x p) (e :: es) [] pos) (eN g fs) :=
  ⟨PE.weak (pe_callB hc hg hm hv ha.pa hn hdb he hpl) fun _ _ _ h => args_t hf h⟩
theorem fe_callTy {ty : String} {x : Str} {p : Pos} {es : List Expr} {fs : As} {r : List V → Hp → VK → Prop} {g : List D → Sto → R D} (hc : CallR X (.type ty) r) (hf : VN (gm X) g r) (hm : X.mg x = none) (hv : bootBuiltins x = some (.type ty)) (ha : FA X W (e :: es) fs) (hg : Gl X x := by rfl)
    (hn : x ≠ "__name__" := by decide) (hdb : (x == ("__debug__" : Str)) = false := by decide)
    (he : starEach (e :: es) X.env = (false, eval e X.env) :: starEach es X.env := by rfl) (hpl : (backTo pos (starEach es X.env)).any (·.1) = false := by rfl) : FE X W (.Call (.Name x p) (e :: es) [] pos) (eN g fs) :=
  ⟨PE.weak (pe_callTy hc hg hm hv ha.pa hn hdb he hpl) fun _ _ _ h => args_t hf h⟩
theorem fe_callF {id : String} {x : Str} {p : Pos} {es : List Expr} {fs : As} {r : List V → Hp → VK → Prop} {g : List D → Sto → R D} (hc : CallR X (.builtin id) r) (hf : VN (gm X) g r) (hm : X.mg x = some (.builtin id)) (ha : FA X W (e :: es) fs) (hg : Gl X x := by rfl)
    (hdb : (x == ("__debug__" : Str)) = false := by decide)
    (he : starEach (e :: es) X.env = (false, eval e X.env) :: starEach es X.env := by rfl) (hpl : (backTo pos (starEach es X.env)).any (·.1) = false := by rfl) : FE X W (.Call (.Name x p) (e :: es) [] pos) (eN g fs) :=
  ⟨PE.weak (pe_callBfun hc hg hm ha.pa hdb he hpl) fun _ _ _ h => args_t hf h⟩
end
end Fz

/-! Fz3: tests; statements, blocks, loops. -/
namespace Fz
open PySem PySem.Spec PyProof.Rows L2

/-! ### truth -/
def truD (d : D) (S : Sto) : Option Bool := match d with
  | .non => some false
  | .bl b => some b
  | .int i => some (i != 0)
  | .str x => if x.length ≤ LINE then some (!x.isEmpty) else none
  | .tup ds => some (!ds.isEmpty)
  | .frl ds => some (!ds.isEmpty)
  | .ref n => match S[n]? with
    | some (.lst ds) => some (!ds.isEmpty)
    | some (.dk kvs) => some (!kvs.isEmpty)
    | none => none
  | .fn _ => none
section
variable {G : Gm} {ι : List Addr} {H : Hp}
theorem RVs.empty {ds : List D} {vs : List V} (h : RVs G ι H ds vs) : (!ds.isEmpty) = !vs.isEmpty := by
  have e := h.length
  cases ds <;> cases vs <;> simp_all
theorem RKV.length : ∀ {ds : List (Key × D)} {vs : List (Key × V)}, RKV G ι H ds vs → ds.length = vs.length
  | [], vs, h => by have e : vs = [] := h; subst e; rfl
  | (k, d) :: ds, vs, h => by
    obtain ⟨v, vr, rfl, h1, h2⟩ := h
    exact congrArg (· + 1) (RKV.length h2)
theorem truD_ok {S : Sto} {d : D} {v : V} {b : Bool} (rep : Rep G ι H S) (r : RV G ι H d v) (h : truD d S = some b) : TruV G.K v H b := by
  cases d with
  | non => have e : v = .non := r; subst e; exact (Option.some.inj h).symm
  | bl c => have e : v = .bl c := r; subst e; exact (Option.some.inj h).symm
  | int i => have e : v = .int i := r; subst e; exact (Option.some.inj h).symm
  | str x =>
    have e : v = .str ⟨x.toArray⟩ := r
    subst e
    simp only [truD] at h
    split at h
    · rename_i hl
      refine ⟨by show x.toArray.size ≤ sizeLine; rw [← line_eq]; simpa using hl, ?_⟩
      rw [← Option.some.inj h]
      show (!x.isEmpty) = ((x.toArray.size : Int) != 0)
      cases x with
      | nil => rfl
      | cons c r =>
        simp
        omega
    · cases h
  | tup ds =>
    obtain ⟨a, vs, rfl, h1, h2⟩ := r
    exact .inr (.inl ⟨vs, h1, by rw [← h2.empty]; exact (Option.some.inj h).symm⟩)
  | frl ds =>
    obtain ⟨a, vs, rfl, h1, h2⟩ := r
    exact .inl ⟨vs, h1.sql, by rw [← h2.empty]; exact (Option.some.inj h).symm⟩
  | ref n =>
    obtain ⟨a, h1, rfl⟩ := r
    simp only [truD] at h
    split at h
    · rename_i ds hc
      obtain ⟨vs, q1, q2⟩ := rep.cell n _ a hc h1
      exact .inl ⟨vs, .of q1, by rw [← q2.empty]; exact (Option.some.inj h).symm⟩
    · rename_i kvs hc
      obtain ⟨vs, q1, q2⟩ := rep.cell n _ a hc h1
      refine .inr (.inr ⟨vs, q1, ?_⟩)
      rw [← Option.some.inj h]
      have e := RKV.length q2
      cases kvs <;> cases vs <;> simp_all
    · cases h
  | fn x => cases h
end
def truR (d : D) (S : Sto) : R Bool := match truD d S with
  | some b => .ok b S
  | none => .stuck
def blR (d : D) (S : Sto) : R Bool := match d with
  | .bl b => .ok b S
  | _ => .stuck
def tOf (f : E) : T := fun env S => (f env S).bind truR
def tBl (f : E) : T := fun env S => (f env S).bind blR
def tNot (f : T) : T := fun env S => (f env S).bind fun b S1 => .ok (!b) S1
def tAnd (f g : T) : T := fun env S => (f env S).bind fun b S1 => if b = true then g env S1 else .ok false S1
def tOr (f g : T) : T := fun env S => (f env S).bind fun b S1 => if b = true then .ok true S1 else g env S1
def eIf (c : T) (a b : E) : E := fun env S => (c env S).bind fun k S1 => if k = true then a env S1 else b env S1
def eAnd (a b : E) : E := fun env S => (a env S).bind fun d S1 => (truR d S1).bind fun k S2 => if k = true then b env S2 else .ok d S2
def eOr (a b : E) : E := fun env S => (a env S).bind fun d S1 => (truR d S1).bind fun k S2 => if k = true then .ok d S2 else b env S2
def eNot (a : E) : E := fun env S => (a env S).bind fun d S1 => (truR d S1).bind fun k S2 => .ok (.bl (!k)) S2
section
variable {X : Cx} {W : WS} {e a b c : Expr} {f fa fb : E} {f0 fc fd : T} {pos : Pos} {rest : List Expr}
theorem truR_post {G : Gm} {β : Type} {Rel : List Addr → Hp → D → β → Prop} {Wp : WP} {ι : List Addr} {H : Hp} {S : Sto} {d : D} {v : V} {Q : β → Hp → Prop} {k : Bool → Sto → R D} (rep : Rep G ι H S) (r : RV G ι H d v)
    (p : Post G Rel Wp ι H ((truR d S).bind k) Q) : ∃ b, TruV G.K v H b ∧ Post G Rel Wp ι H (k b S) Q := by
  unfold truR at p
  split at p
  · rename_i b hb
    exact ⟨b, truD_ok rep r hb, p⟩
  · exact p.elim
theorem ft_tru (ha : FE X W a fa) (he : ∀ whole, isTrue a X.env whole = (do let v ← whole; standAt a.pos; holding [v] (truthy v)) := by intro _; rfl) : FT X W a (tOf fa) := by
  refine ⟨PT.weak (pt_truth ha.pe he) fun σ H Q h => ?_⟩
  obtain ⟨ι, env, S, rep, er, p⟩ := h
  refine ⟨ι, env, S, rep, er, Post.imp (Post.bind p) fun x H1 q => ?_⟩
  obtain ⟨d, S1, ι1, _, rep1, rv, q⟩ := q
  unfold truR at q
  split at q
  · rename_i k hk
    exact ⟨k, truD_ok rep1 rv hk, q k H1 ι1 (Ext.refl _ _) rep1 rfl⟩
  · exact q.elim
theorem ft_cmp {op : CmpOp} {r : R2} {g : D → D → Sto → R D} (ho : OpR X (compareOp op) r) (hf : V2 (gm X) g r) (ha : FE X W a fa) (hb : FE X W b fb) (hm : behindInMarks op b = false) : FT X W (.Compare a [op] [b] pos) (tBl (e2 g fa fb)) := by
  refine ⟨PT.weak (pt_cmpR ho ha.pe hb.pe hm) fun σ H Q h => ?_⟩
  obtain ⟨ι, env, S, rep, er, p⟩ := h
  refine two_t hf ⟨ι, env, S, rep, er, Post.imp (Post.bind p) fun x H1 q => ?_⟩
  obtain ⟨d, S1, ι1, _, rep1, rv, q⟩ := q
  unfold blR at q
  split at q
  · rename_i k
    have ex : x = .bl k := rv
    exact ⟨k, ex, q k H1 ι1 (Ext.refl _ _) rep1 rfl⟩
  · exact q.elim
theorem ft_not (ha : FT X W a f0) : FT X W (.UnaryOp .Not a pos) (tNot f0) := by
  refine ⟨PT.weak (pt_not ha.pt) fun σ H Q h => ?_⟩
  obtain ⟨ι, env, S, rep, er, p⟩ := h
  refine ⟨ι, env, S, rep, er, Post.imp (Post.bind (Rel := RB) p) fun x H1 q => ?_⟩
  obtain ⟨d, S1, ι1, _, rep1, rfl, q⟩ := q
  exact q _ H1 ι1 (Ext.refl _ _) rep1 rfl
/-- and, or: from the last one -/
structure FW (X : Cx) (W : WS) (e : Expr) (f : T) : Prop where
  pw : PW X e (tT (gm X) W f)
theorem FW.ft (h : FW X W e f0) : FT X W e f0 := ⟨PW.pt h.pw⟩
theorem fw_and1 (ha : FT X W a f0) : FW X W (.BoolOp .And [a] pos) f0 := ⟨pw_and1 ha.pt⟩
theorem fw_or1 (ha : FT X W a f0) : FW X W (.BoolOp .Or [a] pos) f0 := ⟨pw_or1 ha.pt⟩
theorem fw_and (ha : FT X W a fc) (hb : FW X W (.BoolOp .And (b :: rest) pos) fd) : FW X W (.BoolOp .And (a :: b :: rest) pos) (tAnd fc fd) := by
  refine ⟨PW.weak (pw_and ha.pt hb.pw) fun σ H Q h => ?_⟩
  obtain ⟨ι, env, S, rep, er, p⟩ := h
  refine ⟨ι, env, S, rep, er, Post.imp (Post.bind (Rel := RB) p) fun x H1 q => ?_⟩
  obtain ⟨d, S1, ι1, e1, rep1, rfl, q⟩ := q
  cases d with
  | true => exact ⟨ι1, env, S1, rep1, er.ext e1, q⟩
  | false => exact q _ H1 ι1 (Ext.refl _ _) rep1 rfl
theorem fw_or (ha : FT X W a fc) (hb : FW X W (.BoolOp .Or (b :: rest) pos) fd) : FW X W (.BoolOp .Or (a :: b :: rest) pos) (tOr fc fd) := by
  refine ⟨PW.weak (pw_or ha.pt hb.pw) fun σ H Q h => ?_⟩
  obtain ⟨ι, env, S, rep, er, p⟩ := h
  refine ⟨ι, env, S, rep, er, Post.imp (Post.bind (Rel := RB) p) fun x H1 q => ?_⟩
  obtain ⟨d, S1, ι1, e1, rep1, rfl, q⟩ := q
  cases d with
  | false => exact ⟨ι1, env, S1, rep1, er.ext e1, q⟩
  | true => exact q _ H1 ι1 (Ext.refl _ _) rep1 rfl
theorem fe_if (hc : FT X W c fc) (ha : FE X W a fa) (hb : FE X W b fb) : FE X W (.IfExp c a b pos) (eIf fc fa fb) := by
  refine ⟨PE.weak (pe_ifExp hc.pt ha.pe hb.pe) fun σ H Q h => ?_⟩
  obtain ⟨ι, env, S, rep, er, p⟩ := h
  refine ⟨ι, env, S, rep, er, Post.imp (Post.bind (Rel := RB) p) fun x H1 q => ?_⟩
  obtain ⟨d, S1, ι1, e1, rep1, rfl, q⟩ := q
  cases d with
  | false => exact ⟨ι1, env, S1, rep1, er.ext e1, q⟩
  | true => exact ⟨ι1, env, S1, rep1, er.ext e1, q⟩
theorem fe_one {op} (h : FE X W a fa) : FE X W (.BoolOp op [a] pos) fa := ⟨pe_one h.pe⟩
theorem fe_and (ha : FE X W a fa) (hb : FE X W (.BoolOp .And (b :: rest) pos) fb) : FE X W (.BoolOp .And (a :: b :: rest) pos) (eAnd fa fb) := by
  refine ⟨PE.weak (pe_andT ha.pe hb.pe) fun σ H Q h => ?_⟩
  obtain ⟨ι, env, S, rep, er, p⟩ := h
  refine ⟨ι, env, S, rep, er, Post.imp (Post.bind p) fun x H1 q => ?_⟩
  obtain ⟨d, S1, ι1, e1, rep1, rv, q⟩ := q
  obtain ⟨k, hk, q⟩ := truR_post rep1 rv q
  refine ⟨k, hk, ?_⟩
  cases k with
  | true => exact ⟨ι1, env, S1, rep1, er.ext e1, q⟩
  | false => exact q x H1 ι1 (Ext.refl _ _) rep1 rv
theorem fe_or (ha : FE X W a fa) (hb : FE X W (.BoolOp .Or (b :: rest) pos) fb) : FE X W (.BoolOp .Or (a :: b :: rest) pos) (eOr fa fb) := by
  refine ⟨PE.weak (pe_orT ha.pe hb.pe) fun σ H Q h => ?_⟩
  obtain ⟨ι, env, S, rep, er, p⟩ := h
  refine ⟨ι, env, S, rep, er, Post.imp (Post.bind p) fun x H1 q => ?_⟩
  obtain ⟨d, S1, ι1, e1, rep1, rv, q⟩ := q
  obtain ⟨k, hk, q⟩ := truR_post rep1 rv q
  refine ⟨k, hk, ?_⟩
  cases k with
  | false => exact ⟨ι1, env, S1, rep1, er.ext e1, q⟩
  | true => exact q x H1 ι1 (Ext.refl _ _) rep1 rv
theorem fe_not (ha : FE X W a fa) : FE X W (.UnaryOp .Not a pos) (eNot fa) := by
  refine ⟨PE.weak (pe_notT ha.pe) fun σ H Q h => ?_⟩
  obtain ⟨ι, env, S, rep, er, p⟩ := h
  refine ⟨ι, env, S, rep, er, Post.imp (Post.bind p) fun x H1 q => ?_⟩
  obtain ⟨d, S1, ι1, e1, rep1, rv, q⟩ := q
  obtain ⟨k, hk, q⟩ := truR_post rep1 rv q
  exact ⟨k, hk, q _ H1 ι1 (Ext.refl _ _) rep1 rfl⟩
end

/-! ### a < b <= c -/
def eCh (g g' : D → D → Sto → R D) (a b c : E) : E := fun env S => (a env S).bind fun x S1 => (b env S1).bind fun y S2 => (g x y S2).bind fun z S3 => (blR z S3).bind fun k S4 => if k = true then (c env S4).bind fun u S5 => g' y u S5 else .ok (.bl false) S4
section
variable {X : Cx} {W : WS} {a b c : Expr} {fa fb fc : E} {pos : Pos} {op op' : CmpOp} {r r' : R2} {g g' : D → D → Sto → R D}
/-- an operation whose reading is met at once (its answer is a truth and nothing changes) -/
def VB (G : Gm) (g : D → D → Sto → R D) (r : R2) : Prop := ∀ (ι : List Addr) (H : Hp) (S : Sto) (d e : D) (v u : V), Rep G ι H S → RV G ι H d v → RV G ι H e u →
  g d e S = .stuck ∨ ∃ k, g d e S = .ok (.bl k) S ∧ ∀ Q, Q (.bl k) H → r v u H Q
theorem VB.v2 {G : Gm} (h : VB G g r) : V2 G g r := fun W ι H S d e v u Q rep h1 h2 p => by
  rcases h ι H S d e v u rep h1 h2 with q | ⟨k, q, q2⟩
  · rw [q] at p; exact p.elim
  · rw [q] at p; exact q2 Q (p _ H ι (Ext.refl _ _) rep rfl)
theorem fe_chain (ho : OpR X (compareOp op) r) (ho' : OpR X (compareOp op') r') (hf : VB (gm X) g r) (hf' : VB (gm X) g' r') (ha : FE X W a fa) (hb : FE X W b fb) (hc : FE X W c fc)
    (hm : lastMarks [op, op'] [b, c] = false := by rfl) : FE X W (.Compare a [op, op'] [b, c] pos) (eCh g g' fa fb fc) := by
  refine ⟨PE.weak (pe_chain ho ho' ha.pe hb.pe hc.pe hm) fun σ H Q h => ?_⟩
  obtain ⟨ι, env, S, rep, er, p⟩ := h
  refine ⟨ι, env, S, rep, er, Post.imp (Post.bind p) fun x H1 q => ?_⟩
  obtain ⟨d, S1, ι1, e1, rep1, rv, q⟩ := q
  refine ⟨ι1, env, S1, rep1, er.ext e1, Post.imp (Post.bind q) fun y H2 q2 => ?_⟩
  obtain ⟨d2, S2, ι2, e2, rep2, rv2, q2⟩ := q2
  rcases hf ι2 H2 S2 d d2 x y rep2 (RV.ext e2 _ _ rv) rv2 with z | ⟨k, z, z2⟩
  · rw [z] at q2; exact q2.elim
  · rw [z] at q2
    refine z2 _ ⟨k, rfl, ?_⟩
    cases k with
    | false => exact q2 _ H2 ι2 (Ext.refl _ _) rep2 rfl
    | true =>
      have er2 := (er.ext e1).ext e2
      refine ⟨ι2, env, S2, rep2, er2, Post.imp (Post.bind q2) fun u H3 q3 => ?_⟩
      obtain ⟨d3, S3, ι3, e3, rep3, rv3, q3⟩ := q3
      rcases hf' ι3 H3 S3 d2 d3 y u rep3 (RV.ext e3 _ _ rv2) rv3 with w | ⟨k', w, w2⟩
      · rw [w] at q3; exact q3.elim
      · rw [w] at q3
        exact w2 _ (q3 _ H3 ι3 (Ext.refl _ _) rep3 rfl)
theorem ft_chain (ho : OpR X (compareOp op) r) (ho' : OpR X (compareOp op') r') (hf : VB (gm X) g r) (hf' : VB (gm X) g' r') (ha : FE X W a fa) (hb : FE X W b fb) (hc : FE X W c fc) (hm : lastMarks [op, op'] [b, c] = false := by rfl) : FT X W (.Compare a [op, op'] [b, c] pos) (tBl (eCh g g' fa fb fc)) := by
  refine ⟨PT.weak (pt_chain ho ho' ha.pe hb.pe hc.pe hm) fun σ H Q h => ?_⟩
  obtain ⟨ι, env, S, rep, er, p⟩ := h
  unfold tBl eCh at p
  simp only [bind_assoc] at p
  refine ⟨ι, env, S, rep, er, Post.imp (Post.bind p) fun x H1 q => ?_⟩
  obtain ⟨d, S1, ι1, e1, rep1, rv, q⟩ := q
  refine ⟨ι1, env, S1, rep1, er.ext e1, Post.imp (Post.bind q) fun y H2 q2 => ?_⟩
  obtain ⟨d2, S2, ι2, e2, rep2, rv2, q2⟩ := q2
  rcases hf ι2 H2 S2 d d2 x y rep2 (RV.ext e2 _ _ rv) rv2 with z | ⟨k, z, z2⟩
  · rw [z] at q2; exact q2.elim
  · rw [z] at q2
    refine z2 _ ⟨k, rfl, ?_⟩
    cases k with
    | false => exact ⟨false, rfl, q2 _ H2 ι2 (Ext.refl _ _) rep2 rfl⟩
    | true =>
      have er2 := (er.ext e1).ext e2
      simp only [bind_ok, blR, if_true, bind_assoc] at q2
      refine ⟨ι2, env, S2, rep2, er2, Post.imp (Post.bind q2) fun u H3 q3 => ?_⟩
      obtain ⟨d3, S3, ι3, e3, rep3, rv3, q3⟩ := q3
      rcases hf' ι3 H3 S3 d2 d3 y u rep3 (RV.ext e3 _ _ rv2) rv3 with w | ⟨k', w, w2⟩
      · rw [w] at q3; exact q3.elim
      · rw [w] at q3
        exact w2 _ ⟨k', rfl, q3 _ H3 ι3 (Ext.refl _ _) rep3 rfl⟩
end

/-! ### statements -/
inductive Fl where
  | nx (env : EnvD) (S : Sto) | rt (d : D) (S : Sto) | bk (env : EnvD) (S : Sto) | ct (env : EnvD) (S : Sto)
  | exc (C : Str) (fs : List (Str × D)) (S : Sto) | stuck
abbrev Sm := EnvD → Sto → Fl
def R.fl {α : Type} (r : R α) (k : α → Sto → Fl) : Fl := match r with
  | .ok a S => k a S
  | .exc C fs S => .exc C fs S
  | .stuck => .stuck
@[simp] theorem fl_ok {α : Type} (a : α) (S : Sto) (k : α → Sto → Fl) : (R.ok a S).fl k = k a S := rfl
@[simp] theorem fl_stuck {α : Type} (k : α → Sto → Fl) : (R.stuck : R α).fl k = .stuck := rfl
@[simp] theorem fl_exc {α : Type} (C : Str) (fs : List (Str × D)) (S : Sto) (k : α → Sto → Fl) : (R.exc C fs S : R α).fl k = .exc C fs S := rfl
theorem fl_bind {α β : Type} (r : R α) (k : α → Sto → R β) (j : β → Sto → Fl) : (r.bind k).fl j = r.fl fun a S => (k a S).fl j := by cases r <;> rfl
def PostS (G : Gm) (W : WS) (ι : List Addr) (H : Hp) (r : Fl) (D : Ends) : Prop := match r with
  | .nx env S => ∀ σ H' ι', Ext ι H ι' H' → Rep G ι' H' S → EnvR G ι' H' env σ → D.nx σ H'
  | .bk env S => ∀ σ H' ι', Ext ι H ι' H' → Rep G ι' H' S → EnvR G ι' H' env σ → D.bk σ H'
  | .ct env S => ∀ σ H' ι', Ext ι H ι' H' → Rep G ι' H' S → EnvR G ι' H' env σ → D.ct σ H'
  | .rt d S => ∀ v H' ι', Ext ι H ι' H' → Rep G ι' H' S → RV G ι' H' d v → D.rt v H'
  | .exc C fs S' => ∀ c dx fv σ H' ι', G.mg C = some (.ref c) → Ext ι H ι' H' → Rep G ι' H' S' → H' dx = some (.xd fv) → RF G ι' H' fs fv → W (.ref c) (some dx) σ H'
  | .stuck => False
theorem PostS.mono {G : Gm} {W : WS} {ι ι' : List Addr} {H H' : Hp} {r : Fl} {Q : Ends} (e : Ext ι H ι' H') (h : PostS G W ι H r Q) : PostS G W ι' H' r Q := by
  cases r with
  | nx env S => exact fun σ H2 ι2 e2 p q => h σ H2 ι2 (e.trans e2) p q
  | bk env S => exact fun σ H2 ι2 e2 p q => h σ H2 ι2 (e.trans e2) p q
  | ct env S => exact fun σ H2 ι2 e2 p q => h σ H2 ι2 (e.trans e2) p q
  | rt d S => exact fun v H2 ι2 e2 p q => h v H2 ι2 (e.trans e2) p q
  | exc C fs S' => exact fun c dx fv σ H2 ι2 m e2 p q z => h c dx fv σ H2 ι2 m (e.trans e2) p q z
  | stuck => exact h
/-- an expression's run, then a statement's -/
theorem PostS.bind {G : Gm} {W : WS} {α β : Type} {Rel : List Addr → Hp → α → β → Prop} {ι : List Addr} {H : Hp} {r : R α} {k : α → Sto → Fl} {Q : Ends} {σ : L2.St} (h : PostS G W ι H (r.fl k) Q) :
    Post G Rel (fun c d H' => W c d σ H') ι H r (fun v H' => ∃ d S' ι', Ext ι H ι' H' ∧ Rep G ι' H' S' ∧ Rel ι' H' d v ∧ PostS G W ι' H' (k d S') Q) := by
  cases r with
  | ok d S' => exact fun v H' ι' e p q => ⟨d, S', ι', e, p, q, PostS.mono e h⟩
  | exc C fs S' => exact fun c dx fv H' ι' m e p q z => h c dx fv σ H' ι' m e p q z
  | stuck => exact h
/-- in the wish's place: at which slots an exception leaves is not told -/
def tS (G : Gm) (W : WS) (f : Sm) : TS := fun Q σ H => ∃ ι env S, Rep G ι H S ∧ EnvR G ι H env σ ∧ PostS G W ι H (f env S) Q
structure FS (X : Cx) (W : WS) (st : Stmt) (f : Sm) : Prop where
  ps : PS X st (tS (gm X) W f)
structure FSs (X : Cx) (W : WS) (st : List Stmt) (f : Sm) : Prop where
  pss : PSs X st (tS (gm X) W f)
def sNil : Sm := fun env S => .nx env S
def sSeq (a b : Sm) : Sm := fun env S => match a env S with
  | .nx env' S' => b env' S'
  | r => r
def sExpr (a : E) : Sm := fun env S => (a env S).fl fun _ S1 => .nx env S1
def sRet (a : E) : Sm := fun env S => (a env S).fl fun d S1 => .rt d S1
def sRetN : Sm := fun _ S => .rt .non S
def sBrk : Sm := fun env S => .bk env S
def sCnt : Sm := fun env S => .ct env S
def sIf (c : T) (a b : Sm) : Sm := fun env S => (c env S).fl fun k S1 => if k = true then a env S1 else b env S1
/-- no exception here -/
def R.fl0 {α : Type} (r : R α) (k : α → Sto → Fl) : Fl := match r with
  | .ok a S => k a S
  | _ => .stuck
@[simp] theorem fl0_ok {α : Type} (a : α) (S : Sto) (k : α → Sto → Fl) : (R.ok a S).fl0 k = k a S := rfl
@[simp] theorem fl0_stuck {α : Type} (k : α → Sto → Fl) : (R.stuck : R α).fl0 k = .stuck := rfl
theorem fl0_bind {α β : Type} (r : R α) (k : α → Sto → R β) (j : β → Sto → Fl) : (r.bind k).fl0 j = r.fl0 fun a S => (k a S).fl0 j := by cases r <;> rfl
theorem PostS.bind0 {G : Gm} {W : WS} {α β : Type} {Rel : List Addr → Hp → α → β → Prop} {ι : List Addr} {H : Hp} {r : R α} {k : α → Sto → Fl} {Q : Ends} (h : PostS G W ι H (r.fl0 k) Q) :
    Post G Rel (fun _ _ _ => False) ι H r (fun v H' => ∃ d S' ι', Ext ι H ι' H' ∧ Rep G ι' H' S' ∧ Rel ι' H' d v ∧ PostS G W ι' H' (k d S') Q) := by
  cases r with
  | ok d S' => exact fun v H' ι' e p q => ⟨d, S', ι', e, p, q, PostS.mono e h⟩
  | exc C fs S' => exact h.elim
  | stuck => exact h
/-- a target: a value into the slots -/
abbrev Tg := D → EnvD → Sto → R EnvD
def gNm (i : Nat) : Tg := fun d env S => .ok (env.set i (some d)) S
def sAsg (a : E) (g : Tg) : Sm := fun env S => (a env S).fl fun d S1 => (g d env S1).fl0 fun env' S2 => .nx env' S2
abbrev Tgs := List D → EnvD → Sto → R EnvD
def gsNil : Tgs := fun ds env S => match ds with
  | [] => .ok env S
  | _ => .stuck
def gsCons (g : Tg) (r : Tgs) : Tgs := fun ds env S => match ds with
  | d :: ds => (g d env S).bind fun env' S' => r ds env' S'
  | [] => .stuck
def gTp (n : Nat) (g : Tgs) : Tg := fun d env S => match d with
  | .tup ds => if ds.length = n then g ds env S else .stuck
  | _ => .stuck
/-- o[i] = v by values -/
def vSet (o i v : D) (S : Sto) : R Unit := match o, i with
  | .ref n, .int k => match S[n]? with
    | some (.lst ds) => match ixN ds.length k with
      | some j => .ok () (S.set n (.lst (ds.set j v)))
      | none => .stuck
    | _ => .stuck
  | _, _ => .stuck
def gSb (a b : E) : Tg := fun d env S => (a env S).bind fun o S1 => (b env S1).bind fun i S2 => (vSet o i d S2).bind fun _ S3 => .ok env S3
abbrev W0 : WP := fun _ _ _ => False
/-- the frame behind a target: only the slots ws are new -/
def EW (G : Gm) (ws : List Nat) (σ : L2.St) (ι : List Addr) (H : Hp) (env : EnvD) (σ' : L2.St) : Prop := EnvR G ι H env σ' ∧ wipe σ' ws = wipe σ ws
def tGd (G : Gm) (ws : List Nat) (g : Tg) : TG := fun v σ H Q => ∃ ι env S d, Rep G ι H S ∧ EnvR G ι H env σ ∧ RV G ι H d v ∧ Post G (EW G ws σ) W0 ι H (g d env S) Q
def tGs (G : Gm) (ws : List Nat) (g : Tgs) : TGs := fun vs σ H Q => ∃ ι env S ds, Rep G ι H S ∧ EnvR G ι H env σ ∧ RVs G ι H ds vs ∧ Post G (EW G ws σ) W0 ι H (g ds env S) Q
structure FG (X : Cx) (ws : List Nat) (tg : Expr) (g : Tg) : Prop where
  pg : PG X tg (tGd (gm X) ws g)
structure FGs (X : Cx) (ws : List Nat) (tgs : List Expr) (g : Tgs) : Prop where
  pg : PGs X tgs (tGs (gm X) ws g)
theorem wipe_set_in {σ : L2.St} {i : Nat} {x : Option V} : ∀ {ws : List Nat}, i ∈ ws → wipe (σ.set i x) ws = wipe σ ws
  | [], h => absurd h (by simp)
  | w :: ws, h => by
    unfold wipe
    by_cases hi : i ∈ ws
    · rw [wipe_set_in hi]
    · have e : i = w := by
        rcases List.mem_cons.mp h with z | z
        · exact z
        · exact absurd z hi
      subst e
      have key : ∀ us : List Nat, i ∉ us → wipe (σ.set i x) us = (wipe σ us).set i x := fun us => by
        induction us with
        | nil => intro _; rfl
        | cons u us ih =>
          intro hu
          simp only [List.mem_cons, not_or] at hu
          unfold wipe
          rw [ih hu.2, List.set_comm _ _ (fun z => hu.1 z)]
      rw [key ws hi, List.set_set]
def sStuck : Sm := fun _ _ => .stuck
section
variable {X : Cx} {W : WS} {e a b tg : Expr} {tgs : List Expr} {f fa fb : E} {g : Tg} {gs : Tgs} {pos : Pos} {st : Stmt} {sts sts' : List Stmt} {s1 s2 : Sm} {fc : T} {ws : List Nat}
theorem PG.weak {t t' : TG} (h : PG X tg t) (k : ∀ v σ H Q, t' v σ H Q → t v σ H Q) : PG X tg t' := ⟨fun pins s σ H v u Q I r q => h.run pins s σ H v u Q I r (k v σ H Q q)⟩
theorem PGs.weak {t t' : TGs} (h : PGs X tgs t) (k : ∀ v σ H Q, t' v σ H Q → t v σ H Q) : PGs X tgs t' := ⟨fun pins s σ H v u Q I r q => h.run pins s σ H v u Q I r (k v σ H Q q)⟩
theorem fg_name {i : Nat} {x : Str} (hN : X.N.Nodup) (hi : X.N[i]? = some x := by rfl) (hx : Loc X.env.scope x := by first | exact Or.inl rfl | exact Or.inr rfl) (hf : X.fn x = true ∨ X.env.scope.names.lookup x = some .local := by first | exact .inl rfl | exact .inr rfl) (hw : i ∈ ws := by decide) : FG X ws (.Name x pos) (gNm i) := by
  refine ⟨PG.weak (pg_name hN hi hx hf) fun v σ H Q h => ?_⟩
  obtain ⟨ι, env, S, d, rep, er, rv, p⟩ := h
  exact p (σ.set i (some v)) H ι (Ext.refl _ _) rep ⟨er.set i rv, wipe_set_in hw⟩
theorem fgs_nil : FGs X ws [] gsNil := by
  refine ⟨PGs.weak pgs_nil fun vs σ H Q h => ?_⟩
  obtain ⟨ι, env, S, ds, rep, er, rv, p⟩ := h
  unfold gsNil at p
  split at p
  · have e : vs = [] := rv
    exact ⟨e, p σ H ι (Ext.refl _ _) rep ⟨er, rfl⟩⟩
  · exact p.elim
theorem fgs_cons (h1 : FG X ws e g) (h2 : FGs X ws tgs gs) (hs : (assignEach (e :: tgs) X.env).map (·.2) = assign e X.env :: (assignEach tgs X.env).map (·.2) := by rfl) : FGs X ws (e :: tgs) (gsCons g gs) := by
  refine ⟨PGs.weak (pgs_cons h1.pg h2.pg hs) fun vs σ H Q h => ?_⟩
  obtain ⟨ι, env, S, ds, rep, er, rv, p⟩ := h
  unfold gsCons at p
  split at p
  · obtain ⟨v, vr, rfl, r1, r2⟩ := rv
    refine ⟨v, vr, rfl, ι, env, S, _, rep, er, r1, Post.imp (Post.bind (Rel := EW (gm X) ws σ) p) fun σ1 H1 q => ?_⟩
    obtain ⟨env1, S1, ι1, e1, rep1, er1, q⟩ := q
    refine ⟨ι1, env1, S1, _, rep1, er1.1, RVs.ext e1 _ _ r2, ?_⟩
    have hw : EW (gm X) ws σ1 = EW (gm X) ws σ := by
      funext ι H env σ'
      unfold EW
      rw [er1.2]
    rw [hw]
    exact q
  · exact p.elim
theorem fg_tup {k n : Nat} (hc : X.calm = true) (h : FGs X ws tgs gs) (hn : (assignEach tgs X.env).length = n := by rfl) (hst : (assignEach tgs X.env).findIdx? (·.1) = none := by rfl) : FG X ws (.Tuple tgs k pos) (gTp n gs) := by
  refine ⟨PG.weak (pg_tup hc h.pg hn hst) fun v σ H Q h => ?_⟩
  obtain ⟨ι, env, S, d, rep, er, rv, p⟩ := h
  unfold gTp at p
  split at p
  · split at p
    · rename_i hl
      obtain ⟨a, vs, rfl, h1, h2⟩ := rv
      exact ⟨a, vs, rfl, h1, by rw [← h2.length]; exact hl, ι, env, S, _, rep, er, h2, p⟩
    · exact p.elim
  · exact p.elim
theorem fg_sub (ha : FE X W a fa) (hb : FE X W b fb) (hp : ∀ v, assign (.Subscript a b pos) X.env v = (do
      let ov ← holding [v] (eval a X.env)
      let iv ← holding [v, ov] (eval b X.env)
      standAt pos
      holding [v, ov, iv] (setItem ov iv v)
      release [v, ov, iv] []) := by intro _; rfl) : FG X ws (.Subscript a b pos) (gSb fa fb) := by
  refine ⟨PG.weak (pg_sub ha.pe hb.pe set_list hp) fun v σ H Q h => ?_⟩
  obtain ⟨ι, env, S, d, rep, er, rv, p⟩ := h
  refine ⟨ι, env, S, rep, er, Post.imp (Post.wp (Post.bind p) fun _ _ _ z => z.elim) fun o H1 q => ?_⟩
  obtain ⟨od, S1, ι1, e1, rep1, ro, q⟩ := q
  refine ⟨ι1, env, S1, rep1, er.ext e1, Post.imp (Post.wp (Post.bind q) fun _ _ _ z => z.elim) fun i H2 q2 => ?_⟩
  obtain ⟨id, S2, ι2, e2, rep2, ri, q2⟩ := q2
  have rv2 := RV.ext e2 _ _ (RV.ext e1 _ _ rv)
  have ro2 := RV.ext e2 _ _ ro
  unfold vSet at q2
  split at q2
  · rename_i n k
    split at q2
    · rename_i ds hds
      split at q2
      · rename_i j hj
        obtain ⟨pa, h1, rfl⟩ := ro2
        have ei : i = .int k := ri
        obtain ⟨vs, hv1, hv2⟩ := rep2.cell n _ pa hds h1
        refine ⟨pa, vs, k, j, rfl, ei, hv1, by rw [← hv2.length]; exact hj, ?_⟩
        refine q2 σ _ ι2 (ext_set rep2 h1) (rep2.set h1 ⟨vs.set j v, upd_same, ?_⟩) ⟨((er.ext e1).ext e2).ext (ext_set rep2 h1), rfl⟩
        exact RVs.ext (ext_set rep2 h1) _ _ (RVs.set j hv2 rv2)
      · exact q2.elim
    · exact q2.elim
  · exact q2.elim
theorem fss_nil : FSs X W [] sNil := by
  refine ⟨PSs.weak pss_nil fun D σ H h => ?_⟩
  obtain ⟨ι, env, S, rep, er, p⟩ := h
  exact p σ H ι (Ext.refl _ _) rep er
theorem PostS.seq {G : Gm} {ι : List Addr} {H : Hp} {env : EnvD} {S : Sto} {s1 s2 : Sm} {Q : Ends} (p : PostS G W ι H (sSeq s1 s2 env S) Q) : PostS G W ι H (s1 env S) { Q with nx := tS G W s2 Q } := by
  unfold sSeq at p
  revert p
  cases s1 env S with
  | nx env' S' => exact fun p σ H' ι' e rep er => ⟨ι', env', S', rep, er, PostS.mono e p⟩
  | rt d S => exact fun p => p
  | bk env S => exact fun p => p
  | ct env S => exact fun p => p
  | exc C fs S => exact fun p => p
  | stuck => exact fun p => p
theorem fss_cons (h1 : FS X W st s1) (h2 : FSs X W sts s2) : FSs X W (st :: sts) (sSeq s1 s2) := by
  refine ⟨PSs.weak (pss_cons h1.ps h2.pss) fun D σ H h => ?_⟩
  obtain ⟨ι, env, S, rep, er, p⟩ := h
  exact ⟨ι, env, S, rep, er, PostS.seq p⟩
theorem fss_one (h1 : FS X W st s1) : FSs X W [st] s1 := ⟨pss_one h1.ps⟩
theorem fs_expr (he : FE X W e f) (hs : swapsWith e none pos.line X.env = pure false := by rfl) : FS X W (.Expr e pos) (sExpr f) := by
  refine ⟨PS.weak (ps_expr he.pe hs) fun D σ H h => ?_⟩
  obtain ⟨ι, env, S, rep, er, p⟩ := h
  refine ⟨ι, env, S, rep, er, Post.imp (PostS.bind p) fun v H1 q => ?_⟩
  obtain ⟨d, S1, ι1, e1, rep1, rv, q⟩ := q
  exact q σ H1 ι1 (Ext.refl _ _) rep1 (er.ext e1)
theorem fs_ret (he : FE X W e f) : FS X W (.Return (some e) pos) (sRet f) := by
  refine ⟨PS.weak (ps_ret he.pe) fun D σ H h => ?_⟩
  obtain ⟨ι, env, S, rep, er, p⟩ := h
  refine ⟨ι, env, S, rep, er, Post.imp (PostS.bind p) fun v H1 q => ?_⟩
  obtain ⟨d, S1, ι1, e1, rep1, rv, q⟩ := q
  exact q v H1 ι1 (Ext.refl _ _) rep1 rv
theorem fs_retN : FS X W (.Return none pos) sRetN := by
  refine ⟨PS.weak ps_retN fun D σ H h => ?_⟩
  obtain ⟨ι, env, S, rep, er, p⟩ := h
  exact p .non H ι (Ext.refl _ _) rep rfl
theorem fs_pass : FS X W (.Pass pos) sNil := by
  refine ⟨PS.weak ps_pass fun D σ H h => ?_⟩
  obtain ⟨ι, env, S, rep, er, p⟩ := h
  exact p σ H ι (Ext.refl _ _) rep er
theorem fs_break : FS X W (.Break pos) sBrk := by
  refine ⟨PS.weak ps_break fun D σ H h => ?_⟩
  obtain ⟨ι, env, S, rep, er, p⟩ := h
  exact p σ H ι (Ext.refl _ _) rep er
theorem fs_continue : FS X W (.Continue pos) sCnt := by
  refine ⟨PS.weak ps_continue fun D σ H h => ?_⟩
  obtain ⟨ι, env, S, rep, er, p⟩ := h
  exact p σ H ι (Ext.refl _ _) rep er
theorem fs_never : FS X W st sStuck := ⟨PS.weak ps_never fun D σ H h => by obtain ⟨ι, env, S, rep, er, p⟩ := h; exact p⟩
theorem fs_if {c : Expr} (hc : FT X W c fc) (ha : FSs X W sts s1) (hb : FSs X W sts' s2) : FS X W (.If c sts sts' pos) (sIf fc s1 s2) := by
  refine ⟨PS.weak (ps_if hc.pt ha.pss hb.pss) fun D σ H h => ?_⟩
  obtain ⟨ι, env, S, rep, er, p⟩ := h
  refine ⟨ι, env, S, rep, er, Post.imp (PostS.bind (Rel := RB) p) fun v H1 q => ?_⟩
  obtain ⟨d, S1, ι1, e1, rep1, rfl, q⟩ := q
  cases d with
  | true => exact ⟨ι1, env, S1, rep1, er.ext e1, q⟩
  | false => exact ⟨ι1, env, S1, rep1, er.ext e1, q⟩
theorem asg_t {D : Ends} {σ : L2.St} {H : Hp} (h : tS (gm X) W (sAsg f g) D σ H) : tE (gm X) W f σ H fun x H1 => tGd (gm X) ws g x σ H1 D.nx := by
  obtain ⟨ι, env, S, rep, er, p⟩ := h
  refine ⟨ι, env, S, rep, er, Post.imp (PostS.bind p) fun v H1 q => ?_⟩
  obtain ⟨d, S1, ι1, e1, rep1, rv, q⟩ := q
  refine ⟨ι1, env, S1, d, rep1, er.ext e1, rv, Post.imp (PostS.bind0 (Rel := EW (gm X) ws σ) q) fun σ2 H2 q2 => ?_⟩
  obtain ⟨env2, S2, ι2, e2, rep2, er2, q2⟩ := q2
  exact q2 σ2 H2 ι2 (Ext.refl _ _) rep2 er2.1
theorem fs_asg (he : FE X W e f) (hg : FG X ws tg g) (hs : swapsWithSole [tg] e pos.line X.env = pure false := by rfl) (hw : swappedStores [tg] e X.env = pure none := by rfl)
    (h1 : (assignEach [tg] X.env).map (·.2) = [assign tg X.env] := by rfl) : FS X W (.Assign [tg] e pos) (sAsg f g) :=
  ⟨PS.weak (ps_asg he.pe hg.pg hs hw h1) fun _ _ _ h => asg_t h⟩
end
end Fz

/-! Fz4: stores at once, while, for, comprehensions. -/
namespace Fz
open PySem PySem.Spec PyProof.Rows L2

/-! ### a, b = x, y -/
def sPar2 (i j : Nat) (fs : As) : Sm := fun env S => (fs env S).fl fun ds S1 => match ds with
  | [a, b] => .nx ((env.set i (some a)).set j (some b)) S1
  | _ => .stuck
def sPar3 (i j l : Nat) (fs : As) : Sm := fun env S => (fs env S).fl fun ds S1 => match ds with
  | [a, b, c] => .nx (((env.set i (some a)).set j (some b)).set l (some c)) S1
  | _ => .stuck
section
variable {X : Cx} {W : WS} {a b c : Expr} {fs : As} {pos px py pz pt : Pos} {x y z : Str} {i j l : Nat}
theorem fs_par {kt k2 pt2} (hc : X.calm = true) (hN : X.N.Nodup) (hx : X.env.scope.names.lookup x = some .local) (hy : X.env.scope.names.lookup y = some .local) (ha : FA X W [a, b] fs)
    (hi : X.N[i]? = some x := by rfl) (hj : X.N[j]? = some y := by rfl) (hij : i ≠ j := by decide)
    (hw : swappedStores [.Tuple [.Name x px, .Name y py] kt pt] (.Tuple [a, b] k2 pt2) X.env = pure (some [x, y]) := by rfl)
    (hs : swapsWithSole [.Tuple [.Name x px, .Name y py] kt pt] (.Tuple [a, b] k2 pt2) pos.line X.env = pure false := by rfl) :
    FS X W (.Assign [.Tuple [.Name x px, .Name y py] kt pt] (.Tuple [a, b] k2 pt2) pos) (sPar2 i j fs) := by
  refine ⟨PS.weak (ps_par hc hN hi hj hij hx hy ha.pa hw hs) fun D σ H h => ?_⟩
  obtain ⟨ι, env, S, rep, er, p⟩ := h
  refine ⟨ι, env, S, rep, er, Post.imp (PostS.bind p) fun vs H1 q => ?_⟩
  obtain ⟨ds, S1, ι1, e1, rep1, rvs, q⟩ := q
  split at q
  · rename_i d1 d2
    obtain ⟨v, vr, rfl, r1, r2⟩ := rvs
    obtain ⟨u, vr', rfl, r3, r4⟩ := r2
    have e : vr' = [] := r4
    subst e
    exact ⟨v, u, rfl, q _ H1 ι1 (Ext.refl _ _) rep1 (((er.ext e1).set i r1).set j r3)⟩
  · exact q.elim
theorem fs_par3 {kt k2 pt2} (hc : X.calm = true) (hN : X.N.Nodup) (hx : X.env.scope.names.lookup x = some .local) (hy : X.env.scope.names.lookup y = some .local) (hz : X.env.scope.names.lookup z = some .local) (ha : FA X W [a, b, c] fs)
    (hi : X.N[i]? = some x := by rfl) (hj : X.N[j]? = some y := by rfl) (hl : X.N[l]? = some z := by rfl) (hij : i ≠ j := by decide) (hil : i ≠ l := by decide) (hjl : j ≠ l := by decide)
    (hw : swappedStores [.Tuple [.Name x px, .Name y py, .Name z pz] kt pt] (.Tuple [a, b, c] k2 pt2) X.env = pure (some [x, y, z]) := by rfl)
    (hs : swapsWithSole [.Tuple [.Name x px, .Name y py, .Name z pz] kt pt] (.Tuple [a, b, c] k2 pt2) pos.line X.env = pure false := by rfl) :
    FS X W (.Assign [.Tuple [.Name x px, .Name y py, .Name z pz] kt pt] (.Tuple [a, b, c] k2 pt2) pos) (sPar3 i j l fs) := by
  refine ⟨PS.weak (ps_par3 hc hN hi hj hl hij hil hjl hx hy hz ha.pa hw hs) fun D σ H h => ?_⟩
  obtain ⟨ι, env, S, rep, er, p⟩ := h
  refine ⟨ι, env, S, rep, er, Post.imp (PostS.bind p) fun vs H1 q => ?_⟩
  obtain ⟨ds, S1, ι1, e1, rep1, rvs, q⟩ := q
  split at q
  · obtain ⟨v, vr, rfl, r1, r2⟩ := rvs
    obtain ⟨u, vr', rfl, r3, r4⟩ := r2
    obtain ⟨w, vr'', rfl, r5, r6⟩ := r4
    have e : vr'' = [] := r6
    subst e
    exact ⟨v, u, w, rfl, q _ H1 ι1 (Ext.refl _ _) rep1 ((((er.ext e1).set i r1).set j r3).set l r5)⟩
  · exact q.elim
end

/-! ### while -/
def sWhN (c : T) (b : Sm) : Nat → Sm
  | 0 => fun _ _ => .stuck
  | n + 1 => fun env S => (c env S).fl fun k S1 => if k = true then
      (match b env S1 with
        | .nx env' S' => sWhN c b n env' S'
        | .ct env' S' => sWhN c b n env' S'
        | .bk env' S' => .nx env' S'
        | r => r)
    else .nx env S1
@[irreducible] def WF : Nat := 2 ^ 4096
def sWh (c : T) (b : Sm) : Sm := sWhN c b WF
section
variable {X : Cx} {W : WS} {c : Expr} {body : List Stmt} {fc : T} {fb : Sm} {pos : Pos}
theorem fs_while (hp : PassesOwn (model X.prog X.w) X.A X.env X.xe) (hc : FT X W c fc) (hb : FSs X W body fb) : FS X W (.While c body [] pos) (sWh fc fb) := by
  refine ⟨PS.weak (ps_while hp hc.pt hb.pss) fun D σ H h => ?_⟩
  obtain ⟨ι, env, S, rep, er, p⟩ := h
  refine ⟨fun m σ H => ∃ ι env S, Rep (gm X) ι H S ∧ EnvR (gm X) ι H env σ ∧ PostS (gm X) W ι H (sWhN fc fb m env S) D, ⟨_, ι, env, S, rep, er, p⟩, ?_⟩
  rintro m σ H ⟨ι, env, S, rep, er, p⟩
  cases m with
  | zero => exact p.elim
  | succ n =>
    refine ⟨ι, env, S, rep, er, Post.imp (PostS.bind (Rel := RB) p) fun k H1 q => ?_⟩
    obtain ⟨k', S1, ι1, e1, rep1, rfl, q⟩ := q
    cases k' with
    | false => exact q σ H1 ι1 (Ext.refl _ _) rep1 (er.ext e1)
    | true =>
      rw [if_pos rfl] at q ⊢
      refine ⟨fun σ' H' => ∃ ι' env' S', Rep (gm X) ι' H' S' ∧ EnvR (gm X) ι' H' env' σ' ∧ PostS (gm X) W ι' H' (sWhN fc fb n env' S') D, fun σ' H' z => ⟨n, Nat.lt_succ_self n, z⟩, ι1, env, S1, rep1, er.ext e1, ?_⟩
      revert q
      cases fb env S1 with
      | nx env' S' => exact fun q σ' H' ι' e r er' => ⟨ι', env', S', r, er', PostS.mono e q⟩
      | ct env' S' => exact fun q σ' H' ι' e r er' => ⟨ι', env', S', r, er', PostS.mono e q⟩
      | bk env' S' => exact fun q => q
      | rt d S' => exact fun q => q
      | exc C fs S' => exact fun q => q
      | stuck => exact fun q => q
end

/-! ### what is walked -/
/-- at turn i, the store as it is: none: nothing is said; some none: the end -/
structure Src where
  get : Nat → Sto → Option (Option D)
  len : Nat
def SrcR (G : Gm) (ι : List Addr) (H : Hp) (s : Src) (J : It) : Prop := ∀ (i : Nat) (ι' : List Addr) (H' : Hp) (S' : Sto), Ext ι H ι' H' → Rep G ι' H' S' →
  (s.get i S' = some none → J.stop i H') ∧ ∀ d, s.get i S' = some (some d) → J.go i H' ∧ ∀ x H2, J.yld i H' x H2 → Ext ι' H' ι' H2 ∧ Rep G ι' H2 S' ∧ RV G ι' H2 d x
def tI (G : Gm) (W : WS) (f : EnvD → Sto → R Src) : TI := fun σ H Q => ∃ ι env S, Rep G ι H S ∧ EnvR G ι H env σ ∧ Post G (SrcR G) (fun c d H' => W c d σ H') ι H (f env S) Q
structure FI (X : Cx) (W : WS) (tg iter : Expr) (f : EnvD → Sto → R Src) : Prop where
  pi : PI X tg iter (tI (gm X) W f)
def cSeq (ds : List D) : Src := ⟨fun i _ => some ds[i]?, ds.length⟩
def cCell (n k : Nat) : Src := ⟨fun i S => match S[n]? with
  | some (.lst ds) => some ds[i]?
  | _ => none, k⟩
def srcOf (d : D) (S : Sto) : R Src := match d with
  | .tup ds => .ok (cSeq ds) S
  | .frl ds => .ok (cSeq ds) S
  | .str x => .ok (cSeq (x.map fun c => .str [c])) S
  | .ref n => match S[n]? with
    | some (.lst ds) => .ok (cCell n ds.length) S
    | _ => .stuck
  | _ => .stuck
def iOf (a : E) : EnvD → Sto → R Src := fun env S => (a env S).bind srcOf
section
variable {X : Cx} {W : WS} {e tg iter : Expr} {f : E} {pos : Pos}
theorem PI.weak {t t' : TI} (h : PI X tg e t) (k : ∀ σ H Q, t' σ H Q → t σ H Q) : PI X tg e t' := ⟨fun pins s σ H Q I q => h.run pins s σ H Q I (k σ H Q q)⟩
theorem PI.or {t t' : TI} (h : PI X tg e t) (h' : PI X tg e t') : PI X tg e (fun σ H Q => t σ H Q ∨ t' σ H Q) :=
  ⟨fun pins s σ H Q I q => by
    rcases q with q | q
    · exact h.run pins s σ H Q I q
    · exact h'.run pins s σ H Q I q⟩
theorem SrcR.mono {G : Gm} {ι ι1 : List Addr} {H H1 : Hp} {s : Src} {J : It} (x : Ext ι H ι1 H1) (h : SrcR G ι H s J) : SrcR G ι1 H1 s J := fun i ι' H' S' e r => h i ι' H' S' (x.trans e) r
theorem src_tup {G : Gm} {ι : List Addr} {H : Hp} {ds : List D} {vs : List V} {a : Addr} (h : SqT G.K H a vs) (rv : RVs G ι H ds vs) : SrcR G ι H (cSeq ds) (Itt G.K a) := fun i ι' H' S' e r => by
  have h' := sqT_ext e.toExt0 h
  have rv' := RVs.ext e _ _ rv
  refine ⟨fun q => ⟨vs, h', ?_⟩, fun d q => ?_⟩
  · have q' : ds[i]? = none := Option.some.inj q
    rw [← rv.length]
    exact List.getElem?_eq_none_iff.mp q'
  · have q' : ds[i]? = some d := Option.some.inj q
    obtain ⟨v, h1, h2⟩ := rv'.get q'
    refine ⟨⟨vs, v, h', h1⟩, fun x H2 y => ?_⟩
    obtain ⟨y1, y2⟩ := y
    subst y1
    have e2 : v = x := Option.some.inj (h1.symm.trans (y2 vs h'))
    subst e2
    exact ⟨Ext.refl _ _, r, h2⟩
theorem src_frl {G : Gm} {ι : List Addr} {H : Hp} {ds : List D} {vs : List V} {a : Addr} (h : SqF G.K H a vs) (rv : RVs G ι H ds vs) : SrcR G ι H (cSeq ds) (Itl G.K a) := fun i ι' H' S' e r => by
  have h' := (sqF_ext e.toExt0 h).sql
  have rv' := RVs.ext e _ _ rv
  refine ⟨fun q => ⟨vs, h', ?_⟩, fun d q => ?_⟩
  · have q' : ds[i]? = none := Option.some.inj q
    rw [← rv.length]
    exact List.getElem?_eq_none_iff.mp q'
  · have q' : ds[i]? = some d := Option.some.inj q
    obtain ⟨v, h1, h2⟩ := rv'.get q'
    refine ⟨⟨vs, v, h', h1⟩, fun x H2 y => ?_⟩
    obtain ⟨y1, y2⟩ := y
    subst y1
    have e2 : v = x := Option.some.inj (h1.symm.trans (y2 vs h'))
    subst e2
    exact ⟨Ext.refl _ _, r, h2⟩
theorem src_cell {G : Gm} {ι : List Addr} {H : Hp} {n k : Nat} {a : Addr} (h : ι[n]? = some a) : SrcR G ι H (cCell n k) (Itl G.K a) := fun i ι' H' S' e r => by
  have ha := e.pre n a h
  refine ⟨fun q => ?_, fun d q => ?_⟩
  · simp only [cCell] at q
    split at q
    · rename_i ds hds
      obtain ⟨vs, h1, h2⟩ := r.cell n _ a hds ha
      refine ⟨vs, .of h1, ?_⟩
      rw [← h2.length]
      exact List.getElem?_eq_none_iff.mp (Option.some.inj q)
    · cases q
  · simp only [cCell] at q
    split at q
    · rename_i ds hds
      obtain ⟨vs, h1, h2⟩ := r.cell n _ a hds ha
      obtain ⟨v, h3, h4⟩ := h2.get (Option.some.inj q)
      refine ⟨⟨vs, v, .of h1, h3⟩, fun x H2 y => ?_⟩
      obtain ⟨y1, y2⟩ := y
      subst y1
      have e2 : v = x := Option.some.inj (h3.symm.trans (y2 vs (.of h1)))
      subst e2
      exact ⟨Ext.refl _ _, r, h4⟩
    · cases q
theorem src_str {G : Gm} {ι : List Addr} {H : Hp} {x : List Nat} : SrcR G ι H (cSeq (x.map fun c => .str [c])) (Its ⟨x.toArray⟩) := fun i ι' H' S' e r => by
  refine ⟨fun q => ?_, fun d q => ?_⟩
  · have q' : (x.map fun c => D.str [c])[i]? = none := Option.some.inj q
    have := List.getElem?_eq_none_iff.mp q'
    show x.toArray.size ≤ i
    simpa using this
  · have q' : (x.map fun c => D.str [c])[i]? = some d := Option.some.inj q
    rw [List.getElem?_map] at q'
    obtain ⟨c, hc, rfl⟩ := Option.map_eq_some_iff.mp q'
    have hi : i < x.length := by
      rcases Nat.lt_or_ge i x.length with h | h
      · exact h
      · rw [List.getElem?_eq_none h] at hc; cases hc
    refine ⟨by show i < x.toArray.size; simpa using hi, fun v H2 y => ?_⟩
    obtain ⟨y1, c', y2, y3⟩ := y
    subst y1
    have y2' : x[i]? = some c' := by simpa using y2
    rw [hc] at y2'
    cases y2'
    exact ⟨Ext.refl _ _, r, y3⟩
theorem fi_of (he : FE X W e f) : FI X W tg e (iOf f) := by
  refine ⟨PI.weak (PI.or (PI.or (pi_tup he.pe) (pi_list he.pe)) (pi_str he.pe)) fun σ H Q h => ?_⟩
  obtain ⟨ι, env, S, rep, er, p⟩ := h
  have p0 : Post (gm X) (SrcR (gm X)) (fun c d H' => W c d σ H') ι H ((f env S).bind srcOf) Q := p
  cases hf : f env S with
  | stuck => rw [hf] at p0; exact p0.elim
  | exc C fs S' => exact .inl (.inl ⟨ι, env, S, rep, er, by rw [hf] at p0 ⊢; exact p0⟩)
  | ok d S' =>
    rw [hf] at p0
    cases d with
    | tup ds =>
      refine .inl (.inl ⟨ι, env, S, rep, er, ?_⟩)
      rw [hf]
      intro v H1 ι1 e1 r1 rv
      obtain ⟨a, vs, rfl, h1, h2⟩ := rv
      exact ⟨a, rfl, ⟨vs, h1⟩, p0 _ H1 ι1 e1 r1 (src_tup h1 h2)⟩
    | frl ds =>
      refine .inl (.inr ⟨ι, env, S, rep, er, ?_⟩)
      rw [hf]
      intro v H1 ι1 e1 r1 rv
      obtain ⟨a, vs, rfl, h1, h2⟩ := rv
      exact ⟨a, rfl, ⟨vs, h1.sql⟩, p0 _ H1 ι1 e1 r1 (src_frl h1 h2)⟩
    | str x =>
      refine .inr ⟨ι, env, S, rep, er, ?_⟩
      rw [hf]
      intro v H1 ι1 e1 r1 rv
      exact ⟨_, rv, p0 _ H1 ι1 e1 r1 src_str⟩
    | ref n =>
      refine .inl (.inr ⟨ι, env, S, rep, er, ?_⟩)
      rw [hf]
      intro v H1 ι1 e1 r1 rv
      obtain ⟨a, h1, rfl⟩ := rv
      have p1 : Post (gm X) (SrcR (gm X)) (fun c d H' => W c d σ H') ι H (srcOf (.ref n) S') Q := p0
      simp only [srcOf] at p1
      split at p1
      · rename_i ds hds
        obtain ⟨vs, h2, h3⟩ := r1.cell n _ a hds h1
        exact ⟨a, rfl, ⟨vs, .of h2⟩, p1 _ H1 ι1 e1 r1 (src_cell h1)⟩
      · exact p1.elim
    | _ => exact p0.elim
end

/-! ### range -/
/-- lo, lo + c, .. (n of them) -/
def intsD (lo c : Int) (n : Nat) : List D := (List.range n).map fun (k : Nat) => D.int (lo + (k : Int) * c)
def B62 (i : Int) : Bool := decide (-(2 ^ 62) ≤ i) && decide (i < 2 ^ 62)
def rng1 (ds : List D) (S : Sto) : R Src := match ds with
  | [.int j] => if B62 j = true then .ok (cSeq (intsD 0 1 j.toNat)) S else .stuck
  | _ => .stuck
def rng2 (ds : List D) (S : Sto) : R Src := match ds with
  | [.int i, .int j] => if B62 i = true ∧ B62 j = true then .ok (cSeq (intsD i 1 (j - i).toNat)) S else .stuck
  | _ => .stuck
def rng3 (ds : List D) (S : Sto) : R Src := match ds with
  | [.int i, .int j, .int c] => if c ≠ 0 ∧ c.natAbs < 1073741824 ∧ Builtin.Range.small i j c = true ∧ 0 ≤ Builtin.Range.rangeSize i j c then .ok (cSeq (intsD i c (Builtin.Range.rangeSize i j c).toNat)) S else .stuck
  | _ => .stuck
def iArg (g : List D → Sto → R Src) (fs : As) : EnvD → Sto → R Src := fun env S => (fs env S).bind g
theorem B62_lo {i : Int} (h : B62 i = true) : -(2 ^ 62) ≤ i ∧ i < 2 ^ 62 := by
  unfold B62 at h
  simpa using h
section
variable {X : Cx} {W : WS} {a b c tg : Expr} {fs : As} {p pos : Pos} {f : EnvD → Sto → R Src}
theorem src_ints {G : Gm} {ι : List Addr} {H : Hp} {lo c : Int} {n : Nat} {J : It} (h1 : ∀ i H', n ≤ i → J.stop i H') (h2 : ∀ i H', i < n → J.go i H') (h3 : ∀ i H' x H2, J.yld i H' x H2 → H2 = H' ∧ x = .int (lo + (i : Int) * c)) : SrcR G ι H (cSeq (intsD lo c n)) J := fun i ι' H' S' e r => by
  refine ⟨fun q => h1 i H' ?_, fun d q => ?_⟩
  · have := List.getElem?_eq_none_iff.mp (Option.some.inj q)
    simpa [intsD] using this
  · have q' : (intsD lo c n)[i]? = some d := Option.some.inj q
    unfold intsD at q'
    rw [List.getElem?_map] at q'
    obtain ⟨k, hk, rfl⟩ := Option.map_eq_some_iff.mp q'
    have hi : i < n := by
      rcases Nat.lt_or_ge i n with h | h
      · exact h
      · rw [List.getElem?_eq_none (by simpa using h)] at hk; cases hk
    rw [List.getElem?_range hi] at hk
    cases hk
    refine ⟨h2 i H' hi, fun x H2 y => ?_⟩
    obtain ⟨y1, y2⟩ := h3 i H' x H2 y
    subst y1
    exact ⟨Ext.refl _ _, r, y2⟩
theorem iarg_t {g : List D → Sto → R Src} {σ : L2.St} {H : Hp} {Q : It → Hp → Prop} {r : List V → Hp → (It → Hp → Prop) → Prop} (h : tI (gm X) W (iArg g fs) σ H Q)
    (k : ∀ ι H S ds vs, Rep (gm X) ι H S → RVs (gm X) ι H ds vs → Post (gm X) (SrcR (gm X)) (fun c d H' => W c d σ H') ι H (g ds S) Q → r vs H Q) : tA (gm X) W fs σ H fun vs H1 => r vs H1 Q := by
  obtain ⟨ι, env, S, rep, er, q⟩ := h
  refine ⟨ι, env, S, rep, er, Post.imp (Post.bind q) fun vs H1 q => ?_⟩
  obtain ⟨ds, S1, ι1, e1, rep1, rvs, q⟩ := q
  exact k ι1 H1 S1 ds vs rep1 rvs q
theorem fi_range1 (hm : X.mg "range" = none) (ha : FA X W [a] fs) (hg : Gl X "range" := by rfl) (hs : starEach [a] X.env = [(false, eval a X.env)] := by rfl) : FI X W tg (.Call (.Name "range" p) [a] [] pos) (iArg rng1 fs) := by
  refine ⟨PI.weak (pi_range1 hg hm ha.pa hs) fun σ H Q h => iarg_t (r := fun vs H1 R => ∃ j : Int, vs = [.int j] ∧ -(2 ^ 62) ≤ j ∧ j < 2 ^ 62 ∧ R (Itr 0 j.toNat) H1) h fun ι H S ds vs rep rvs q => ?_⟩
  unfold rng1 at q
  split at q
  · rename_i j
    split at q
    · rename_i hj
      obtain ⟨v, vr, rfl, r1, r2⟩ := rvs
      have e1 : v = .int j := r1
      have e2 : vr = [] := r2
      subst e1 e2
      exact ⟨j, rfl, (B62_lo hj).1, (B62_lo hj).2, q _ H ι (Ext.refl _ _) rep (src_ints (fun i H' h => h) (fun i H' h => h) fun i H' x H2 y => ⟨y.1, by rw [Int.mul_one]; exact y.2⟩)⟩
    · exact q.elim
  · exact q.elim
theorem fi_range2 (hm : X.mg "range" = none) (ha : FA X W [a, b] fs) (hg : Gl X "range" := by rfl) (hs : starEach [a, b] X.env = [(false, eval a X.env), (false, eval b X.env)] := by rfl) (hs2 : starEach [b] X.env = [(false, eval b X.env)] := by rfl) : FI X W tg (.Call (.Name "range" p) [a, b] [] pos) (iArg rng2 fs) := by
  refine ⟨PI.weak (pi_range2 hg hm ha.pa hs hs2) fun σ H Q h => iarg_t (r := fun vs H1 R => ∃ i j : Int, vs = [.int i, .int j] ∧ (-(2 ^ 62) ≤ i ∧ i < 2 ^ 62 ∧ -(2 ^ 62) ≤ j ∧ j < 2 ^ 62) ∧ R (Itr i (j - i).toNat) H1) h fun ι H S ds vs rep rvs q => ?_⟩
  unfold rng2 at q
  split at q
  · rename_i i j
    split at q
    · rename_i hj
      obtain ⟨v, vr, rfl, r1, r2⟩ := rvs
      obtain ⟨u, vr', rfl, r3, r4⟩ := r2
      have e1 : v = .int i := r1
      have e2 : u = .int j := r3
      have e3 : vr' = [] := r4
      subst e1 e2 e3
      exact ⟨i, j, rfl, ⟨(B62_lo hj.1).1, (B62_lo hj.1).2, (B62_lo hj.2).1, (B62_lo hj.2).2⟩, q _ H ι (Ext.refl _ _) rep (src_ints (fun i H' h => h) (fun i H' h => h) fun i H' x H2 y => ⟨y.1, by rw [Int.mul_one]; exact y.2⟩)⟩
    · exact q.elim
  · exact q.elim
theorem fi_range3 (hm : X.mg "range" = none) (ha : FA X W [a, b, c] fs) (hg : Gl X "range" := by rfl) (hs : starEach [a, b, c] X.env = (false, eval a X.env) :: starEach [b, c] X.env := by rfl) (hpl : (backTo pos (starEach [b, c] X.env)).any (·.1) = false := by rfl) : FI X W tg (.Call (.Name "range" p) [a, b, c] [] pos) (iArg rng3 fs) := by
  refine ⟨PI.weak (pi_range3 hg hm ha.pa hs hpl) fun σ H Q h => iarg_t (r := fun vs H1 R => ∃ (i j c : Int) (n : Nat), vs = [.int i, .int j, .int c] ∧ RgC i j c n ∧ R (Itc i c n) H1) h fun ι H S ds vs rep rvs q => ?_⟩
  unfold rng3 at q
  split at q
  · rename_i i j c
    split at q
    · rename_i hj
      obtain ⟨v, vr, rfl, r1, r2⟩ := rvs
      obtain ⟨u, vr', rfl, r3, r4⟩ := r2
      obtain ⟨w, vr'', rfl, r5, r6⟩ := r4
      have e1 : v = .int i := r1
      have e2 : u = .int j := r3
      have e3 : w = .int c := r5
      have e4 : vr'' = [] := r6
      subst e1 e2 e3 e4
      exact ⟨i, j, c, _, rfl, ⟨hj.1, hj.2.1, hj.2.2.1, (Int.toNat_of_nonneg hj.2.2.2).symm⟩, q _ H ι (Ext.refl _ _) rep (src_ints (fun i H' h => h) (fun i H' h => h) fun i H' x H2 y => y)⟩
    · exact q.elim
  · exact q.elim
end

/-! ### for -/
def sForN (s : Src) (g : Tg) (b : Sm) : Nat → Nat → Sm
  | 0, i => fun env S => match s.get i S with
    | some none => .nx env S
    | _ => .stuck
  | k + 1, i => fun env S => match s.get i S with
    | some none => .nx env S
    | some (some d) => (g d env S).fl0 fun env1 S1 => (match b env1 S1 with
        | .nx env' S' => sForN s g b k (i + 1) env' S'
        | .ct env' S' => sForN s g b k (i + 1) env' S'
        | .bk env' S' => .nx env' S'
        | r => r)
    | none => .stuck
def sFor (f : EnvD → Sto → R Src) (g : Tg) (b : Sm) : Sm := fun env S => (f env S).fl fun s S1 => sForN s g b s.len 0 env S1
section
variable {X : Cx} {W : WS} {tg iter : Expr} {body : List Stmt} {f : EnvD → Sto → R Src} {g : Tg} {fb : Sm} {pos : Pos} {ws : List Nat}
theorem fs_for (hp : PassesOwn (model X.prog X.w) X.A X.env X.xe) (hc : X.calm = true) (hi : FI X W tg iter f) (hg : FG X ws tg g) (hb : FSs X W body fb)
    (hs : ∀ x, foldedSetIterable iter X.env x = pure x := by intro _; rfl) : FS X W (.For tg iter body [] pos) (sFor f g fb) := by
  refine ⟨PS.weak (ps_for hp hc hi.pi hg.pg hb.pss hs) fun D σ H h => ?_⟩
  obtain ⟨ι, env, S, rep, er, p⟩ := h
  refine ⟨ι, env, S, rep, er, Post.imp (PostS.bind p) fun J H1 q => ?_⟩
  obtain ⟨s, S1, ι1, e1, rep1, sr, q⟩ := q
  refine ⟨fun i m σ H => ∃ ι env S, Ext ι1 H1 ι H ∧ Rep (gm X) ι H S ∧ EnvR (gm X) ι H env σ ∧ PostS (gm X) W ι H (sForN s g fb m i env S) D, ⟨s.len, ι1, env, S1, Ext.refl _ _, rep1, er.ext e1, q⟩, ?_⟩
  rintro i m σ H ⟨ι, env, S, ex, rep, er, p⟩
  obtain ⟨hstop, hgo⟩ := sr i ι H S ex rep
  cases m with
  | zero =>
    unfold sForN at p
    split at p
    · rename_i hq
      exact .inl ⟨hstop hq, p σ H ι (Ext.refl _ _) rep er⟩
    · exact p.elim
  | succ k =>
    unfold sForN at p
    split at p
    · rename_i hq
      exact .inl ⟨hstop hq, p σ H ι (Ext.refl _ _) rep er⟩
    · rename_i d hq
      obtain ⟨go, yl⟩ := hgo d hq
      refine .inr ⟨go, fun σ' H' => ∃ ι' env' S', Ext ι1 H1 ι' H' ∧ Rep (gm X) ι' H' S' ∧ EnvR (gm X) ι' H' env' σ' ∧ PostS (gm X) W ι' H' (sForN s g fb k (i + 1) env' S') D, fun σ' H' z => ⟨k, Nat.lt_succ_self k, z⟩, fun x H2 hy => ?_⟩
      obtain ⟨ex2, rep2, rv⟩ := yl x H2 hy
      refine ⟨ι, env, S, d, rep2, er.ext ex2, rv, Post.imp (PostS.bind0 (Rel := EW (gm X) ws σ) (PostS.mono ex2 p)) fun σ3 H3 q3 => ?_⟩
      obtain ⟨env3, S3, ι3, e3, rep3, er3, q3⟩ := q3
      refine ⟨ι3, env3, S3, rep3, er3.1, ?_⟩
      have ex3 := (ex.trans ex2).trans e3
      revert q3
      cases fb env3 S3 with
      | nx env' S' => exact fun q3 σ' H' ι' e r er' => ⟨ι', env', S', ex3.trans e, r, er', PostS.mono e q3⟩
      | ct env' S' => exact fun q3 σ' H' ι' e r er' => ⟨ι', env', S', ex3.trans e, r, er', PostS.mono e q3⟩
      | bk env' S' => exact fun q3 => q3
      | rt d S' => exact fun q3 => q3
      | exc C fs S' => exact fun q3 => q3
      | stuck => exact fun q3 => q3
    · exact p.elim
end

/-! ### comprehensions -/
def wipeD (env : EnvD) : List Nat → EnvD
  | [] => env
  | v :: vs => (wipeD env vs).set v none
theorem wipeR {G : Gm} {ι : List Addr} {H : Hp} {env : EnvD} {σ : L2.St} (h : EnvR G ι H env σ) : ∀ vs : List Nat, EnvR G ι H (wipeD env vs) (wipe σ vs)
  | [] => h
  | v :: vs => by
    have ih := wipeR h vs
    refine ⟨by unfold wipeD wipe; simp [ih.len], fun j d q => ?_⟩
    unfold wipeD at q
    unfold wipe
    by_cases hj : v = j
    · subst hj
      by_cases hl : v < (wipeD env vs).length
      · rw [List.getElem?_set_self hl] at q; cases q
      · rw [List.getElem?_eq_none (by simpa using hl)] at q; cases q
    · rw [List.getElem?_set_ne hj] at q ⊢
      exact ih.at_ j d q
def tYesD : T := fun _ S => .ok true S
/-- the elements -/
def lcN (s : Src) (g : Tg) (t : T) (e : E) (env : EnvD) : Nat → Nat → List D → Sto → R (List D)
  | 0, i => fun acc S => match s.get i S with
    | some none => .ok acc S
    | _ => .stuck
  | k + 1, i => fun acc S => match s.get i S with
    | some none => .ok acc S
    | some (some d) => (g d env S).bind fun env1 S1 => (t env1 S1).bind fun b S2 =>
        if b = true then (e env1 S2).bind fun y S3 => if acc.length < LINE then lcN s g t e env k (i + 1) (acc ++ [y]) S3 else .stuck
        else lcN s g t e env k (i + 1) acc S2
    | none => .stuck
def R.nox {α : Type} (r : R α) : R α := match r with
  | .ok a S => .ok a S
  | _ => .stuck
@[simp] theorem nox_ok {α : Type} (a : α) (S : Sto) : (R.ok a S).nox = .ok a S := rfl
@[simp] theorem nox_stuck {α : Type} : (R.stuck : R α).nox = .stuck := rfl
theorem nox_bind {α β : Type} (r : R α) (k : α → Sto → R β) : (r.bind k).nox = r.nox.bind fun a S => (k a S).nox := by cases r <;> rfl
def mkLst (ds : List D) (S : Sto) : R D := .ok (.ref S.length) (S ++ [.lst ds])
def eLc (f : EnvD → Sto → R Src) (g : Tg) (t : T) (e : E) (vs : List Nat) : E := fun env S => (f env S).bind fun s S1 => ((lcN s g t e (wipeD env vs) s.len 0 [] S1).nox).bind mkLst
section
variable {X : Cx} {W : WS}
theorem Post.bindB {G : Gm} {α β α' β' : Type} {Rel : List Addr → Hp → α → β → Prop} {Rel' : List Addr → Hp → α' → β' → Prop} {W : WP} {ι : List Addr} {H : Hp} {r : R α} {k : α → Sto → R α'} {Q : β' → Hp → Prop} (h : Post G Rel' W ι H (r.bind k) Q) :
    Post G Rel W ι H r (fun v H' => ∃ d S' ι', Ext ι H ι' H' ∧ Rep G ι' H' S' ∧ Rel ι' H' d v ∧ Post G Rel' W ι H (k d S') Q) := by
  cases r with
  | ok d S' => exact fun v H' ι' e p q => ⟨d, S', ι', e, p, q, h⟩
  | exc C fs S' => exact h
  | stuck => exact h
theorem Post.bindM {G : Gm} {α β α' β' : Type} {Rel : List Addr → Hp → α → β → Prop} {Rel' : List Addr → Hp → α' → β' → Prop} {W : WP} {ι ι1 : List Addr} {H H1 : Hp} {r : R α} {k : α → Sto → R α'} {Q : β' → Hp → Prop} (x : Ext ι H ι1 H1) (h : Post G Rel' W ι H (r.bind k) Q) :
    Post G Rel W ι1 H1 r (fun v H' => ∃ d S' ι', Ext ι1 H1 ι' H' ∧ Rep G ι' H' S' ∧ Rel ι' H' d v ∧ Post G Rel' W ι H (k d S') Q) := by
  cases r with
  | ok d S' => exact fun v H' ι' e p q => ⟨d, S', ι', e, p, q, h⟩
  | exc C fs S' => exact fun c dx fv H' ι' m e p q z => h c dx fv H' ι' m (x.trans e) p q z
  | stuck => exact h
theorem wipe_get {σ : L2.St} {i : Nat} : ∀ vs : List Nat, (wipe σ vs)[i]? = if i ∈ vs ∧ i < σ.length then some none else σ[i]?
  | [] => by simp [wipe]
  | v :: vs => by
    unfold wipe
    have ih := wipe_get (σ := σ) (i := i) vs
    by_cases hv : v = i
    · subst hv
      by_cases hl : v < σ.length
      · rw [List.getElem?_set_self (by rw [wipe_length]; exact hl)]
        simp [hl]
      · rw [List.getElem?_eq_none (by rw [List.length_set, wipe_length]; omega), if_neg (by simp [hl]), List.getElem?_eq_none (by omega)]
    · rw [List.getElem?_set_ne hv, ih]
      have : (i ∈ v :: vs ∧ i < σ.length) ↔ (i ∈ vs ∧ i < σ.length) := by
        simp only [List.mem_cons]
        constructor
        · rintro ⟨h | h, h2⟩
          · exact absurd h.symm hv
          · exact ⟨h, h2⟩
        · rintro ⟨h, h2⟩
          exact ⟨.inr h, h2⟩
      simp only [this]
theorem wipe_idem (σ : L2.St) (vs : List Nat) : wipe (wipe σ vs) vs = wipe σ vs := by
  apply List.ext_getElem?
  intro i
  rw [wipe_get, wipe_get, wipe_length]
  by_cases h : i ∈ vs ∧ i < σ.length
  · simp only [if_pos h]
  · simp only [if_neg h]
theorem Post.unnox {G : Gm} {α β : Type} {Rel : List Addr → Hp → α → β → Prop} {W W' : WP} {ι : List Addr} {H : Hp} {r : R α} {Q : β → Hp → Prop} (h : Post G Rel W ι H r.nox Q) : Post G Rel W' ι H r Q := by
  cases r with
  | ok d S' => exact h
  | exc C fs S' => exact h.elim
  | stuck => exact h
/-- nothing is raised within -/
theorem lc_t {G : Gm} {f : EnvD → Sto → R Src} {g : Tg} {t : T} {e : E} {vs : List Nat} {σ : L2.St} {H : Hp} {Q : VK} {wi : TI} {tg : TG} {tt : TT} {te : TE} (h : tE G W (eLc f g t e vs) σ H Q)
    (hi : ∀ σ H Q, tI G W f σ H Q → wi σ H Q) (hg : ∀ v σ H Q, tGd G vs g v σ H Q → tg v σ H Q) (ht : ∀ σ H Q, tT G (fun _ _ _ _ => False) t σ H Q → tt σ H Q) (he : ∀ σ H Q, tE G (fun _ _ _ _ => False) e σ H Q → te σ H Q) : tLc wi tg tt te vs σ H Q := by
  obtain ⟨ι, env, S, rep, er, p⟩ := h
  refine hi σ H _ ⟨ι, env, S, rep, er, Post.imp (Post.bind p) fun J H1 q => ?_⟩
  obtain ⟨s, S1, ι1, e1, rep1, sr, q⟩ := q
  have er1 := er.ext e1
  intro D hD
  have hw := wipeR er1 vs
  have xD : Ext ι1 H1 ι1 (upd H1 D (.lst [])) := ext_upd hD
  refine ⟨fun i m Hh => ∃ ι S acc accV, Ext ι1 H1 ι Hh ∧ Rep G ι Hh S ∧ Hh D = some (.lst accV) ∧ (∀ i : Nat, ι[i]? ≠ some D) ∧ RVs G ι Hh acc accV ∧ Post G (RV G) (fun c d H' => W c d σ H') ι1 H1 (((lcN s g t e (wipeD env vs) m i acc S).nox).bind mkLst) Q,
    ⟨s.len, ι1, S1, [], [], xD, rep1.other hD, upd_same, rep1.fresh hD, rfl, q⟩, ?_⟩
  rintro i m Hh ⟨ι2, S2, acc, accV, ex, rep2, hDD, hno, racc, p⟩
  obtain ⟨hstop, hgo⟩ := sr i ι2 Hh S2 ex rep2
  have fin : ∀ {r : R (List Fz.D)}, s.get i S2 = some none → r = .ok acc S2 → Post G (RV G) (fun c d H' => W c d σ H') ι1 H1 (r.nox.bind mkLst) Q → Q (.ref D) Hh := fun {r} _ er p => by
    rw [er] at p
    have x0 : Ext0 ι2 Hh (ι2 ++ [D]) Hh := ⟨fun i a e => by
      have hi : i < ι2.length := by
        rcases Nat.lt_or_ge i ι2.length with h' | h'
        · exact h'
        · rw [List.getElem?_eq_none h'] at e; cases e
      rw [List.getElem?_append_left hi]; exact e, fun _ _ e => e, fun _ _ _ e => e⟩
    refine p (.ref D) Hh (ι2 ++ [D]) ⟨⟨fun i a e => x0.pre i a (ex.pre i a e), ex.tups, ex.frzs⟩, ex.keep, fun i a e => ?_⟩ (rep2.take_in hno ⟨accV, hDD, RVs.ext0 x0 _ _ racc⟩) ⟨D, by rw [← rep2.len]; simp, rfl⟩
    rcases get_push e with z | ⟨_, z⟩
    · exact ex.new i a z
    · exact .inr (z ▸ hD)
  cases m with
  | zero =>
    unfold lcN at p
    split at p
    · rename_i hq
      exact .inl ⟨hstop hq, fin hq rfl p⟩
    · exact p.elim
  | succ k =>
    unfold lcN at p
    split at p
    · rename_i hq
      exact .inl ⟨hstop hq, fin hq rfl p⟩
    · rename_i d hq
      obtain ⟨go, yl⟩ := hgo d hq
      refine .inr ⟨go, fun Hh => ∃ ι S acc accV, Ext ι1 H1 ι Hh ∧ Rep G ι Hh S ∧ Hh D = some (.lst accV) ∧ (∀ i : Nat, ι[i]? ≠ some D) ∧ RVs G ι Hh acc accV ∧ Post G (RV G) (fun c d H' => W c d σ H') ι1 H1 (((lcN s g t e (wipeD env vs) k (i + 1) acc S).nox).bind mkLst) Q, fun H' z => ⟨k, Nat.lt_succ_self k, z⟩, fun x H3 hy => ?_⟩
      obtain ⟨ex3, rep3, rv⟩ := yl x H3 hy
      have ex13 := ex.trans ex3
      have hD3 := ex3.keep D _ hDD hno
      have racc3 := RVs.ext ex3 _ _ racc
      refine hg x _ H3 _ ⟨ι2, wipeD env vs, S2, d, rep3, (wipeR er1 vs).ext ex13, rv, ?_⟩
      simp only [nox_bind, bind_assoc] at p
      refine Post.unnox (Post.imp (Post.bindM (Rel := EW G vs (wipe σ vs)) ex13 p) fun σ4 H4 q4 => ?_)
      obtain ⟨env4, S4, ι4, e4, rep4, er4, p⟩ := q4
      have ex14 := ex13.trans e4
      have hno3 := ex3.out hDD hno
      have hD4 := e4.keep D _ hD3 hno3
      have hno4 := e4.out hD3 hno3
      have racc4 := RVs.ext e4 _ _ racc3
      refine ⟨by rw [er4.2, wipe_idem], ht σ4 H4 _ ⟨ι4, env4, S4, rep4, er4.1, Post.unnox (Post.imp (Post.bindM (Rel := RB) ex14 p) fun b H5 q5 => ?_)⟩⟩
      obtain ⟨b', S5, ι5, e5, rep5, rfl, p⟩ := q5
      have ex15 := ex14.trans e5
      have hD5 := e5.keep D _ hD4 hno4
      have hno5 := e5.out hD4 hno4
      have racc5 := RVs.ext e5 _ _ racc4
      cases b' with
      | false =>
        rw [if_neg (by simp)] at p ⊢
        exact ⟨ι5, S5, acc, accV, ex15, rep5, hD5, hno5, racc5, p⟩
      | true =>
        rw [if_pos rfl] at p ⊢
        simp only [nox_bind, bind_assoc] at p
        refine he σ4 H5 _ ⟨ι5, env4, S5, rep5, er4.1.ext e5, Post.unnox (Post.imp (Post.bindM (Rel := RV G) ex15 p) fun y H6 q6 => ?_)⟩
        obtain ⟨dy, S6, ι6, e6, rep6, ry, p⟩ := q6
        have ex16 := ex15.trans e6
        have hD6 := e6.keep D _ hD5 hno5
        have hno6 := e6.out hD5 hno5
        have racc6 := RVs.ext e6 _ _ racc5
        split at p
        · rename_i hl
          refine ⟨accV, hD6, by rw [← racc6.length, ← line_eq]; exact hl, ι6, S6, acc ++ [dy], accV ++ [y], ⟨⟨ex16.pre, fun a xs q => ?_, fun a o u q => ?_⟩, fun a o q n => ?_, ex16.new⟩, rep6.off hD6 hno6, upd_same, hno6, RVs.ext0 (ext0_off hD6) _ _ (RVs.append racc6 (RVs.one ry)), p⟩
          · rw [upd_ne (fun z => by rw [z, hD] at q; cases q)]; exact ex16.tups a xs q
          · rw [upd_ne (fun z => by rw [z, hD] at q; cases q)]; exact ex16.frzs a o u q
          · rw [upd_ne (fun z => by rw [z, hD] at q; cases q)]; exact ex16.keep a o q n
        · exact p.elim
    · exact p.elim
variable {elt tg iter c : Expr} {f : EnvD → Sto → R Src} {g : Tg} {t : T} {e : E} {scope : Scope} {own : List (Str × Nat)} {pos : Pos}
abbrev BX (X : Cx) (scope : Scope) : Cx → Prop := fun Y => ∃ (s : Shared) (H : Hp) (C : Addr) (cl : List (Str × Addr)) (fp : List Addr), Y = X.blk s H scope (compEnvC scope cl C X.env) fp
theorem fe_lc (hc : X.calm = true) (hN : X.N.Nodup) (hi : FI X W tg iter f) (ok : blkC X.N X.env.scope scope own = true)
    (hg : ∀ (s : Shared) (H : Hp) (C : Addr) (cl : List (Str × Addr)) (fp : List Addr), FG (X.blk s H scope (compEnvC scope cl C X.env) fp) (own.map (·.2)) tg g)
    (he : ∀ (s : Shared) (H : Hp) (C : Addr) (cl : List (Str × Addr)) (fp : List Addr), FE (X.blk s H scope (compEnvC scope cl C X.env) fp) (fun _ _ _ _ => False) elt e) (hs : ∀ x, foldedSetIterable iter X.env x = pure x := by intro _; rfl) :
    FE X W (.ListComp elt [⟨tg, iter, [], 0⟩] scope pos) (eLc f g tYesD e (own.map (·.2))) :=
  ⟨PE.weak (pe_lc (own := own) hc hN hi.pi (blkOk_by ok) (fun s H C cl fp => (hg s H C cl fp).pg) (fun _ _ _ _ _ => pts_nil) (fun s H C cl fp => (he s H C cl fp).pe) hs) fun σ H Q h =>
    lc_t h (fun _ _ _ q => q) (fun _ _ _ _ q => q) (fun σ H Q q => by obtain ⟨ι, env, S, rep, er, p⟩ := q; exact p true H ι (Ext.refl _ _) rep rfl) fun _ _ _ q => q⟩
theorem fe_lcIf (hc : X.calm = true) (hN : X.N.Nodup) (hi : FI X W tg iter f) (ok : blkC X.N X.env.scope scope own = true)
    (hg : ∀ (s : Shared) (H : Hp) (C : Addr) (cl : List (Str × Addr)) (fp : List Addr), FG (X.blk s H scope (compEnvC scope cl C X.env) fp) (own.map (·.2)) tg g)
    (ht : ∀ (s : Shared) (H : Hp) (C : Addr) (cl : List (Str × Addr)) (fp : List Addr), FT (X.blk s H scope (compEnvC scope cl C X.env) fp) (fun _ _ _ _ => False) c t)
    (he : ∀ (s : Shared) (H : Hp) (C : Addr) (cl : List (Str × Addr)) (fp : List Addr), FE (X.blk s H scope (compEnvC scope cl C X.env) fp) (fun _ _ _ _ => False) elt e) (hs : ∀ x, foldedSetIterable iter X.env x = pure x := by intro _; rfl) :
    FE X W (.ListComp elt [⟨tg, iter, [c], 0⟩] scope pos) (eLc f g t e (own.map (·.2))) :=
  ⟨PE.weak (pe_lc (own := own) hc hN hi.pi (blkOk_by ok) (fun s H C cl fp => (hg s H C cl fp).pg) (fun s H C cl fp => pts_one (ht s H C cl fp).pt) (fun s H C cl fp => (he s H C cl fp).pe) hs) fun σ H Q h =>
    lc_t h (fun _ _ _ q => q) (fun _ _ _ _ q => q) (fun _ _ _ q => q) fun _ _ _ q => q⟩
/-- y = [..] -/
theorem fs_lc {i : Nat} {y : Str} {py spos : Pos} {ws : List Nat} (hc : X.calm = true) (hN : X.N.Nodup) (hyl : X.env.scope.names.lookup y = some .local) (hi : FI X W tg iter f) (ok : blkC X.N X.env.scope scope own = true)
    (hg : ∀ (s : Shared) (H : Hp) (C : Addr) (cl : List (Str × Addr)) (fp : List Addr), FG (X.blk s H scope (compEnvC scope cl C X.env) fp) (own.map (·.2)) tg g)
    (he : ∀ (s : Shared) (H : Hp) (C : Addr) (cl : List (Str × Addr)) (fp : List Addr), FE (X.blk s H scope (compEnvC scope cl C X.env) fp) (fun _ _ _ _ => False) elt e)
    (hy : X.N[i]? = some y := by rfl) (hk : X.env.scope.kind = .function := by rfl) (hl : (py.line == pos.line) = true := by rfl) (ha : (scope.names.any fun (n, k) => n == y && (k == .local || k == .cell)) = false := by decide +kernel) (hs : ∀ x, foldedSetIterable iter X.env x = pure x := by intro _; rfl) :
    FS X W (.Assign [.Name y py] (.ListComp elt [⟨tg, iter, [], 0⟩] scope pos) spos) (sAsg (eLc f g tYesD e (own.map (·.2))) (gNm i)) :=
  ⟨PS.weak (ps_setLc (own := own) hc hN hy hyl (sw_true hk hyl hl ha) hi.pi (blkOk_by ok) (fun s H C cl fp => (hg s H C cl fp).pg) (fun _ _ _ _ _ => pts_nil) (fun s H C cl fp => (he s H C cl fp).pe) hs) fun D σ H h => by
    obtain ⟨ι, env, S, rep, er, p⟩ := h
    refine lc_t (W := W) ⟨ι, env, S, rep, er, Post.imp (PostS.bind p) fun v H1 q => ?_⟩ (fun _ _ _ q => q) (fun _ _ _ _ q => q) (fun σ H Q q => by obtain ⟨ι, env, S, rep, er, p⟩ := q; exact p true H ι (Ext.refl _ _) rep rfl) fun _ _ _ q => q
    obtain ⟨d, S1, ι1, e1, rep1, rv, q⟩ := q
    exact q _ H1 ι1 (Ext.refl _ _) rep1 ((er.ext e1).set i rv)⟩
theorem fs_lcIf {i : Nat} {y : Str} {py spos : Pos} {ws : List Nat} (hc : X.calm = true) (hN : X.N.Nodup) (hyl : X.env.scope.names.lookup y = some .local) (hi : FI X W tg iter f) (ok : blkC X.N X.env.scope scope own = true)
    (hg : ∀ (s : Shared) (H : Hp) (C : Addr) (cl : List (Str × Addr)) (fp : List Addr), FG (X.blk s H scope (compEnvC scope cl C X.env) fp) (own.map (·.2)) tg g)
    (ht : ∀ (s : Shared) (H : Hp) (C : Addr) (cl : List (Str × Addr)) (fp : List Addr), FT (X.blk s H scope (compEnvC scope cl C X.env) fp) (fun _ _ _ _ => False) c t)
    (he : ∀ (s : Shared) (H : Hp) (C : Addr) (cl : List (Str × Addr)) (fp : List Addr), FE (X.blk s H scope (compEnvC scope cl C X.env) fp) (fun _ _ _ _ => False) elt e)
    (hy : X.N[i]? = some y := by rfl) (hk : X.env.scope.kind = .function := by rfl) (hl : (py.line == pos.line) = true := by rfl) (ha : (scope.names.any fun (n, k) => n == y && (k == .local || k == .cell)) = false := by decide +kernel) (hs : ∀ x, foldedSetIterable iter X.env x = pure x := by intro _; rfl) :
    FS X W (.Assign [.Name y py] (.ListComp elt [⟨tg, iter, [c], 0⟩] scope pos) spos) (sAsg (eLc f g t e (own.map (·.2))) (gNm i)) :=
  ⟨PS.weak (ps_setLc (own := own) hc hN hy hyl (sw_true hk hyl hl ha) hi.pi (blkOk_by ok) (fun s H C cl fp => (hg s H C cl fp).pg) (fun s H C cl fp => pts_one (ht s H C cl fp).pt) (fun s H C cl fp => (he s H C cl fp).pe) hs) fun D σ H h => by
    obtain ⟨ι, env, S, rep, er, p⟩ := h
    refine lc_t (W := W) ⟨ι, env, S, rep, er, Post.imp (PostS.bind p) fun v H1 q => ?_⟩ (fun _ _ _ q => q) (fun _ _ _ _ q => q) (fun _ _ _ q => q) fun _ _ _ q => q
    obtain ⟨d, S1, ι1, e1, rep1, rv, q⟩ := q
    exact q _ H1 ι1 (Ext.refl _ _) rep1 ((er.ext e1).set i rv)⟩
end
end Fz

/-! Fz5: what the operators and the built-ins do with values. -/
namespace Fz
open PySem PySem.Spec PyProof.Rows L2

/-! ### numbers -/
def mulOk (i j : Int) : Prop := CMulW i j ∨ CMul i j
instance (i j : Int) : Decidable (mulOk i j) := by unfold mulOk CMulW CMul; infer_instance
instance (i j : Int) : Decidable (CPow i j) := by unfold CPow; infer_instance
def divOk (j : Int) : Prop := 0 < j ∧ j.natAbs.log2 < 9000
instance (j : Int) : Decidable (divOk j) := by unfold divOk; infer_instance
def vMul : D → D → Sto → R D
  | .int i, .int j, S => if mulOk i j then .ok (.int (i * j)) S else .stuck
  | .str x, .int k, S => if 0 ≤ k ∧ k < 2 ^ 62 ∧ x.length * k.toNat ≤ LINE then .ok (.str (List.replicate k.toNat x).flatten) S else .stuck
  | _, _, _ => .stuck
def vMulI : D → D → Sto → R D
  | .int i, .int j, S => if mulOk i j then .ok (.int (i * j)) S else .stuck
  | _, _, _ => .stuck
def vAdd : D → D → Sto → R D
  | .int i, .int j, S => .ok (.int (i + j)) S
  | .str x, .str y, S => if x.length + y.length ≤ LINE then .ok (.str (x ++ y)) S else .stuck
  | .tup x, .tup y, S => if x.length + y.length ≤ LINE then .ok (.tup (x ++ y)) S else .stuck
  | .ref m, .ref n, S => match S[m]?, S[n]? with
    | some (.lst x), some (.lst y) => if x.length + y.length ≤ LINE then .ok (.ref S.length) (S ++ [.lst (x ++ y)]) else .stuck
    | _, _ => .stuck
  | _, _, _ => .stuck
def vSub : D → D → Sto → R D
  | .int i, .int j, S => .ok (.int (i - j)) S
  | _, _, _ => .stuck
def vDiv : D → D → Sto → R D
  | .int i, .int j, S => if divOk j then .ok (.int (i / j)) S else .stuck
  | _, _, _ => .stuck
def vMod : D → D → Sto → R D
  | .int i, .int j, S => if 0 < j then .ok (.int (i % j)) S else .stuck
  | _, _, _ => .stuck
def vPow : D → D → Sto → R D
  | .int i, .int j, S => if CPow i j then .ok (.int (i ^ j.toNat)) S else .stuck
  | _, _, _ => .stuck
def vShl : D → D → Sto → R D
  | .int i, .int j, S => if CPow i j then .ok (.int (i * 2 ^ j.toNat)) S else .stuck
  | _, _, _ => .stuck
def vShr : D → D → Sto → R D
  | .int i, .int j, S => if 0 ≤ j then .ok (.int (i / 2 ^ j.toNat)) S else .stuck
  | _, _, _ => .stuck
def vAnd : D → D → Sto → R D
  | .int i, .int j, S => .ok (.int (Builtin.bitAnd i j)) S
  | _, _, _ => .stuck
def vNeg : D → Sto → R D
  | .int i, S => .ok (.int (-i)) S
  | _, _ => .stuck
section
variable {X : Cx}
/-- ints alone -/
theorem v2_int {C : Int → Int → Prop} {g : Int → Int → Int} [∀ i j, Decidable (C i j)] {f : D → D → Sto → R D} (h1 : ∀ i j S, f (.int i) (.int j) S = if C i j then .ok (.int (g i j)) S else .stuck) (h2 : ∀ d e S, f d e S ≠ .stuck → (∃ i j, d = .int i ∧ e = .int j)) {G : Gm} : V2 G f (rI C fun i j => .int (g i j)) := by
  intro W ι H S d e v u Q rep r1 r2 p
  have ne : f d e S ≠ .stuck := fun z => by rw [z] at p; exact p
  obtain ⟨i, j, rfl, rfl⟩ := h2 d e S ne
  rw [h1] at p
  split at p
  · rename_i hc
    exact ⟨i, j, r1, r2, hc, p _ H ι (Ext.refl _ _) rep rfl⟩
  · exact p.elim
theorem v2_int0 {g : Int → Int → Int} {f : D → D → Sto → R D} (h1 : ∀ i j S, f (.int i) (.int j) S = .ok (.int (g i j)) S) (h2 : ∀ d e S, f d e S ≠ .stuck → (∃ i j, d = .int i ∧ e = .int j)) {G : Gm} : V2 G f (rI0 fun i j => .int (g i j)) := by
  intro W ι H S d e v u Q rep r1 r2 p
  have ne : f d e S ≠ .stuck := fun z => by rw [z] at p; exact p
  obtain ⟨i, j, rfl, rfl⟩ := h2 d e S ne
  rw [h1] at p
  exact ⟨i, j, r1, r2, p _ H ι (Ext.refl _ _) rep rfl⟩
theorem only_ints {f : D → D → Sto → R D} (h : ∀ d e S, (∀ i j, ¬ (d = .int i ∧ e = .int j)) → f d e S = .stuck) (d e : D) (S : Sto) (ne : f d e S ≠ .stuck) : ∃ i j, d = .int i ∧ e = .int j := by
  by_cases q : ∃ i j, d = .int i ∧ e = .int j
  · exact q
  · exact absurd (h d e S fun i j z => q ⟨i, j, z⟩) ne
theorem V2.or {G : Gm} {f : D → D → Sto → R D} {r r' : R2} (h : ∀ (W : WP) (ι : List Addr) (H : Hp) (S : Sto) (d e : D) (v u : V) (Q : VK), Rep G ι H S → RV G ι H d v → RV G ι H e u → Post G (RV G) W ι H (f d e S) Q → r v u H Q ∨ r' v u H Q) : V2 G f (fun x y H Q => r x y H Q ∨ r' x y H Q) := h
theorem op_mulB : OpR X (binaryOp .Mult) (rI mulOk fun i j => .int (i * j)) := by
  intro pins s σ H x y v u Q I rx ry h
  obtain ⟨i, j, h1, h2, hc, q⟩ := h
  rcases hc with hc | hc
  · exact op_mulW pins s σ H x y v u Q I rx ry ⟨i, j, h1, h2, hc, q⟩
  · exact op_mul pins s σ H x y v u Q I rx ry ⟨i, j, h1, h2, hc, q⟩
theorem v_mulI {G : Gm} : V2 G vMulI (rI mulOk fun i j => .int (i * j)) := v2_int (fun _ _ _ => rfl) (only_ints fun d e S h => by
  unfold vMulI
  split
  · exact absurd ⟨rfl, rfl⟩ (h _ _)
  · rfl)
theorem v_sub {G : Gm} : V2 G vSub (rI0 fun i j => .int (i - j)) := v2_int0 (fun _ _ _ => rfl) (only_ints fun d e S h => by
  unfold vSub
  split
  · exact absurd ⟨rfl, rfl⟩ (h _ _)
  · rfl)
theorem op_divB : OpR X (binaryOp .FloorDiv) (rI (fun _ j => divOk j) fun i j => .int (i / j)) := op_fdivW
theorem v_div {G : Gm} : V2 G vDiv (rI (fun _ j => divOk j) fun i j => .int (i / j)) := v2_int (fun _ _ _ => rfl) (only_ints fun d e S h => by
  unfold vDiv
  split
  · exact absurd ⟨rfl, rfl⟩ (h _ _)
  · rfl)
theorem v_mod {G : Gm} : V2 G vMod (rI (fun _ j => 0 < j) fun i j => .int (i % j)) := v2_int (fun _ _ _ => rfl) (only_ints fun d e S h => by
  unfold vMod
  split
  · exact absurd ⟨rfl, rfl⟩ (h _ _)
  · rfl)
theorem v_pow {G : Gm} : V2 G vPow (rI CPow fun i j => .int (i ^ j.toNat)) := v2_int (fun _ _ _ => rfl) (only_ints fun d e S h => by
  unfold vPow
  split
  · exact absurd ⟨rfl, rfl⟩ (h _ _)
  · rfl)
theorem v_shl {G : Gm} : V2 G vShl (rI CPow fun i j => .int (i * 2 ^ j.toNat)) := v2_int (fun _ _ _ => rfl) (only_ints fun d e S h => by
  unfold vShl
  split
  · exact absurd ⟨rfl, rfl⟩ (h _ _)
  · rfl)
theorem v_shr {G : Gm} : V2 G vShr (rI (fun _ j => 0 ≤ j) fun i j => .int (i / 2 ^ j.toNat)) := v2_int (fun _ _ _ => rfl) (only_ints fun d e S h => by
  unfold vShr
  split
  · exact absurd ⟨rfl, rfl⟩ (h _ _)
  · rfl)
theorem v_and {G : Gm} : V2 G vAnd (rI0 fun i j => .int (Builtin.bitAnd i j)) := v2_int0 (fun _ _ _ => rfl) (only_ints fun d e S h => by
  unfold vAnd
  split
  · exact absurd ⟨rfl, rfl⟩ (h _ _)
  · rfl)
theorem v_neg {G : Gm} : V1 G vNeg (rU fun i => .int (-i)) := by
  intro W ι H S d v Q rep r p
  unfold vNeg at p
  split at p
  · exact ⟨_, r, p _ H ι (Ext.refl _ _) rep rfl⟩
  · exact p.elim
/-- + -/
def rAddS : R2 := fun x y H Q => ∃ i j : Str, x = .str i ∧ y = .str j ∧ i.length + j.length ≤ sizeLine ∧ Q (.str (i ++ j)) H
def rAddAll (K : PySem.W.Frag) : R2 := fun x y H Q => ((rI0 fun i j => .int (i + j)) x y H Q ∨ rAddS x y H Q) ∨ (rCatA K x y H Q ∨ rCat x y H Q)
theorem op_addAll : OpR X (binaryOp .Add) (rAddAll X.K) := (op_add.or op_add_str).or (op_catA.or op_cat)
theorem v_add {G : Gm} : V2 G vAdd (rAddAll G.K) := by
  intro W ι H S d e v u Q rep r1 r2 p
  unfold vAdd at p
  split at p
  · exact .inl (.inl ⟨_, _, r1, r2, p _ H ι (Ext.refl _ _) rep rfl⟩)
  · rename_i x y
    split at p
    · rename_i hl
      refine .inl (.inr ⟨_, _, r1, r2, by rw [← line_eq]; exact (show x.toArray.size + y.toArray.size ≤ LINE by simpa using hl), ?_⟩)
      refine p _ H ι (Ext.refl _ _) rep ?_
      show V.str _ = V.str _
      congr 1
      show (⟨x.toArray ++ y.toArray⟩ : Str) = ⟨(x ++ y).toArray⟩
      simp
    · exact p.elim
  · rename_i x y
    split at p
    · rename_i hl
      obtain ⟨a, vs, rfl, h1, h2⟩ := r1
      obtain ⟨b, us, rfl, h3, h4⟩ := r2
      refine .inr (.inl ⟨a, b, vs, us, rfl, rfl, h1, h3, by rw [← h2.length, ← h4.length, ← line_eq]; exact hl, fun z => ?_, fun z1 z2 => ?_, fun z1 z2 q hq => ?_⟩)
      · have : x = [] := by subst z; exact h2.nil_of
        subst this
        exact p _ H ι (Ext.refl _ _) rep ⟨b, us, rfl, h3, h4⟩
      · have : y = [] := by subst z2; exact h4.nil_of
        subst this
        rw [List.append_nil] at p
        exact p _ H ι (Ext.refl _ _) rep ⟨a, vs, rfl, h1, h2⟩
      · exact post_tup (Wp := W) rep (RVs.append h2 h4) hq p
    · exact p.elim
  · rename_i m n
    split at p
    · rename_i x y hx hy
      split at p
      · rename_i hl
        obtain ⟨a, h1, rfl⟩ := r1
        obtain ⟨b, h2, rfl⟩ := r2
        obtain ⟨vs, h3, h4⟩ := rep.cell _ _ a hx h1
        obtain ⟨us, h5, h6⟩ := rep.cell _ _ b hy h2
        exact .inr (.inr ⟨a, b, vs, us, rfl, rfl, h3, h5, by rw [← h4.length, ← h6.length, ← line_eq]; exact hl, fun q hq => post_lst rep (RVs.append h4 h6) hq p⟩)
      · exact p.elim
    · exact p.elim
  · exact p.elim
end

/-! ### comparisons of numbers -/
def vCmp (f : Int → Int → Bool) : D → D → Sto → R D
  | .int i, .int j, S => .ok (.bl (f i j)) S
  | _, _, _ => .stuck
abbrev vLt := vCmp fun i j => decide (i < j)
abbrev vLe := vCmp fun i j => decide (i ≤ j)
abbrev vGt := vCmp fun i j => decide (j < i)
abbrev vGe := vCmp fun i j => decide (j ≤ i)
theorem vb_cmp {G : Gm} (f : Int → Int → Bool) : VB G (vCmp f) (rI0 fun i j => .bl (f i j)) := by
  intro ι H S d e v u rep r1 r2
  unfold vCmp
  split
  · exact .inr ⟨_, rfl, fun Q q => ⟨_, _, r1, r2, q⟩⟩
  · exact .inl rfl
theorem v_cmp {G : Gm} (f : Int → Int → Bool) : V2 G (vCmp f) (rI0 fun i j => .bl (f i j)) := (vb_cmp f).v2
def vIsN : D → D → Sto → R D := fun d e S => match d, e with
  | .non, .non => .ok (.bl true) S
  | _, .non => .ok (.bl false) S
  | .bl a, .bl b => .ok (.bl (a == b)) S
  | _, _ => .stuck
def vNotN : D → D → Sto → R D := fun d e S => match d, e with
  | .non, .non => .ok (.bl false) S
  | _, .non => .ok (.bl true) S
  | .bl a, .bl b => .ok (.bl (!(a == b))) S
  | _, _ => .stuck
section
variable {X : Cx}
def rIs : R2 := fun x y H Q => (y = .non ∧ Q (.bl (decide (x = .non))) H) ∨ rIsB x y H Q
def rNot : R2 := fun x y H Q => (y = .non ∧ Q (.bl (!decide (x = .non))) H) ∨ rNotB x y H Q
theorem op_is : OpR X (compareOp .Is) rIs := OpR.or op_isN op_isBl
theorem op_isnot : OpR X (compareOp .IsNot) rNot := OpR.or op_notN op_notBl
theorem RV.non_iff {G : Gm} {ι : List Addr} {H : Hp} {d : D} {v : V} (r : RV G ι H d v) (h : d ≠ .non) : v ≠ .non := by
  cases d with
  | non => exact absurd rfl h
  | bl b => have e : v = .bl b := r; subst e; exact fun z => nomatch z
  | int b => have e : v = .int b := r; subst e; exact fun z => nomatch z
  | str b => have e : v = .str _ := r; subst e; exact fun z => nomatch z
  | tup ds => obtain ⟨a, vs, rfl, _⟩ := r; exact fun z => nomatch z
  | frl ds => obtain ⟨a, vs, rfl, _⟩ := r; exact fun z => nomatch z
  | ref n => obtain ⟨a, _, rfl⟩ := r; exact fun z => nomatch z
  | fn n => obtain ⟨a, _, rfl⟩ := r; exact fun z => nomatch z
theorem vb_is {G : Gm} : VB G vIsN rIs := by
  intro ι H S d e v u rep r1 r2
  unfold vIsN
  split
  · have e1 : v = .non := r1
    have e2 : u = .non := r2
    subst e1 e2
    exact .inr ⟨_, rfl, fun Q q => .inl ⟨rfl, q⟩⟩
  · rename_i hne
    have e2 : u = .non := r2
    subst e2
    have ne : v ≠ .non := RV.non_iff r1 hne
    exact .inr ⟨_, rfl, fun Q q => .inl ⟨rfl, by rw [decide_eq_false ne]; exact q⟩⟩
  · rename_i a b
    exact .inr ⟨_, rfl, fun Q q => .inr ⟨a, b, r1, r2, by rw [← Bool.beq_eq_decide_eq]; exact q⟩⟩
  · exact .inl rfl
theorem vb_isnot {G : Gm} : VB G vNotN rNot := by
  intro ι H S d e v u rep r1 r2
  unfold vNotN
  split
  · have e1 : v = .non := r1
    have e2 : u = .non := r2
    subst e1 e2
    exact .inr ⟨_, rfl, fun Q q => .inl ⟨rfl, q⟩⟩
  · rename_i hne
    have e2 : u = .non := r2
    subst e2
    have ne : v ≠ .non := RV.non_iff r1 hne
    exact .inr ⟨_, rfl, fun Q q => .inl ⟨rfl, by rw [decide_eq_false ne]; exact q⟩⟩
  · rename_i a b
    exact .inr ⟨_, rfl, fun Q q => .inr ⟨a, b, r1, r2, by rw [← Bool.beq_eq_decide_eq]; exact q⟩⟩
  · exact .inl rfl
end

/-! ### data -/
def mapO {α β : Type} (f : α → Option β) : List α → Option (List β)
  | [] => some []
  | a :: as => match f a, mapO f as with
    | some b, some bs => some (b :: bs)
    | _, _ => none
def toPy (S : Sto) : Nat → D → Option PyData
  | 0, _ => none
  | n + 1, d => match d with
    | .non => some .none
    | .bl b => some (.bool b)
    | .int i => some (.int i)
    | .str x => some (.str ⟨x.toArray⟩)
    | .tup ds => (mapO (toPy S n) ds).map .tuple
    | .frl ds => (mapO (toPy S n) ds).map .list
    | .ref k => match S[k]? with
      | some (.lst ds) => (mapO (toPy S n) ds).map .list
      | _ => none
    | .fn _ => none
section
variable {G : Gm} {ι : List Addr} {H : Hp} {S : Sto}
theorem dpAll_of {f : D → Option PyData} (hf : ∀ d v p, RV G ι H d v → f d = some p → Dp G.K H v p) : ∀ (ds : List D) (vs : List V) (ps : List PyData), RVs G ι H ds vs → mapO f ds = some ps → DpAll G.K H vs ps
  | [], vs, ps, h, e => by
    have e1 : vs = [] := h
    subst e1
    cases e
    exact .nil
  | d :: ds, vs, ps, h, e => by
    obtain ⟨v, vr, rfl, h1, h2⟩ := h
    unfold mapO at e
    split at e
    · rename_i b bs hb hbs
      cases e
      exact .cons (hf d v b h1 hb) (dpAll_of hf ds vr bs h2 hbs)
    · cases e
theorem dp_of (rep : Rep G ι H S) : ∀ (n : Nat) (d : D) (v : V) (p : PyData), RV G ι H d v → toPy S n d = some p → Dp G.K H v p
  | 0, d, v, p, h, e => by cases e
  | n + 1, d, v, p, h, e => by
    unfold toPy at e
    cases d with
    | non => cases e; have e1 : v = .non := h; subst e1; exact .non
    | bl b => cases e; have e1 : v = .bl b := h; subst e1; exact .bl b
    | int b => cases e; have e1 : v = .int b := h; subst e1; exact .int b
    | str b => cases e; have e1 : v = .str _ := h; subst e1; exact .str _
    | tup ds =>
      obtain ⟨ps, h1, rfl⟩ := Option.map_eq_some_iff.mp e
      obtain ⟨a, vs, rfl, h2, h3⟩ := h
      exact .tup h2 (dpAll_of (dp_of rep n) ds vs ps h3 h1)
    | frl ds =>
      obtain ⟨ps, h1, rfl⟩ := Option.map_eq_some_iff.mp e
      obtain ⟨a, vs, rfl, h2, h3⟩ := h
      exact .lst h2.sql (dpAll_of (dp_of rep n) ds vs ps h3 h1)
    | ref k =>
      obtain ⟨a, h2, rfl⟩ := h
      simp only at e
      split at e
      · rename_i ds hds
        obtain ⟨ps, h1, rfl⟩ := Option.map_eq_some_iff.mp e
        obtain ⟨vs, h3, h4⟩ := rep.cell _ _ a hds h2
        exact .lst (.of h3) (dpAll_of (dp_of rep n) ds vs ps h4 h1)
      · cases e
    | fn x => cases e
end
def eqG (f : Bool → Bool) (d e : D) (S : Sto) : R D := match toPy S 40 d, toPy S 40 e with
  | some p, some q => if SeqAt.shaped p = true ∧ SeqAt.shaped q = true then .ok (.bl (f (PyData.eqv p q))) S else .stuck
  | _, _ => .stuck
/-- two texts, any; or what is deep data -/
def eqA (f : Bool → Bool) (d e : D) (S : Sto) : R D := match d, e with
  | .str x, .str y => .ok (.bl (f (x == y))) S
  | d, e => eqG f d e S
def vEq (d e : D) (S : Sto) : R D := eqA id d e S
def vNe (d e : D) (S : Sto) : R D := eqA not d e S
section
variable {X : Cx}
def rEqAll (K : PySem.W.Frag) : R2 := fun x y H Q => rEq x y H Q ∨ rEqD K x y H Q
def rNeAll (K : PySem.W.Frag) : R2 := fun x y H Q => rNe x y H Q ∨ rNeD K x y H Q
theorem op_eqAll (hu : X.A.units + 64 < cLine) : OpR X (compareOp .Eq) (rEqAll X.K) := op_eq.or (op_eqD hu)
theorem op_neAll (hu : X.A.units + 64 < cLine) : OpR X (compareOp .NotEq) (rNeAll X.K) := op_ne.or (op_neD hu)
end
theorem eqG_v {G : Gm} {f : Bool → Bool} {ι : List Addr} {H : Hp} {S : Sto} {d e : D} {v u : V} (rep : Rep G ι H S) (r1 : RV G ι H d v) (r2 : RV G ι H e u) :
    eqG f d e S = .stuck ∨ ∃ p q, Dp G.K H v p ∧ Dp G.K H u q ∧ SeqAt.shaped p = true ∧ SeqAt.shaped q = true ∧ eqG f d e S = .ok (.bl (f (PyData.eqv p q))) S := by
  unfold eqG
  split
  · rename_i p q hp hq
    split
    · rename_i hs
      exact .inr ⟨p, q, dp_of rep 40 d v p r1 hp, dp_of rep 40 e u q r2 hq, hs.1, hs.2, rfl⟩
    · exact .inl rfl
  · exact .inl rfl
theorem strEq {x y : List Nat} : (decide (V.str ⟨x.toArray⟩ = V.str ⟨y.toArray⟩)) = (x == y) := by
  rw [Bool.eq_iff_iff]
  simp
theorem vb_eq {G : Gm} : VB G vEq (rEqAll G.K) := by
  intro ι H S d e v u rep r1 r2
  unfold vEq eqA
  split
  · cases r1; cases r2
    exact .inr ⟨_, rfl, fun Q k => .inl ⟨rfl, by rw [strEq]; exact k⟩⟩
  · rcases eqG_v (f := id) rep r1 r2 with h | ⟨p, q, h1, h2, h3, h4, h5⟩
    · exact .inl h
    · exact .inr ⟨_, h5, fun Q k => .inr ⟨p, q, h1, h2, h3, h4, k⟩⟩
theorem vb_ne {G : Gm} : VB G vNe (rNeAll G.K) := by
  intro ι H S d e v u rep r1 r2
  unfold vNe eqA
  split
  · cases r1; cases r2
    exact .inr ⟨_, rfl, fun Q k => .inl ⟨rfl, by rw [strEq]; exact k⟩⟩
  · rcases eqG_v (f := not) rep r1 r2 with h | ⟨p, q, h1, h2, h3, h4, h5⟩
    · exact .inl h
    · exact .inr ⟨_, h5, fun Q k => .inr ⟨p, q, h1, h2, h3, h4, k⟩⟩

/-! ### items, slices -/
def vIx : D → D → Sto → R D
  | .tup ds, .int i, S => match atI ds i with
    | some d => .ok d S
    | none => .stuck
  | .frl ds, .int i, S => match atI ds i with
    | some d => .ok d S
    | none => .stuck
  | .str x, .int i, S => if x.length ≤ LINE then (match atI x i with
    | some c => .ok (.str [c]) S
    | none => .stuck) else .stuck
  | .ref n, .int i, S => match S[n]? with
    | some (.lst ds) => (match atI ds i with
      | some d => .ok d S
      | none => .stuck)
    | _ => .stuck
  | _, _, _ => .stuck
theorem RVs.atI {G : Gm} {ι : List Addr} {H : Hp} {ds : List D} {vs : List V} {i : Int} {d : D} (h : RVs G ι H ds vs) (e : atI ds i = some d) : ∃ v, L2.atI vs i = some v ∧ RV G ι H d v := by
  unfold L2.atI at e ⊢
  rw [← h.length]
  cases q : ixN ds.length i with
  | none => rw [q] at e; cases e
  | some j =>
    rw [q] at e
    exact h.get e
theorem v_ix {G : Gm} : V2 G vIx (rIx G.K) := by
  intro W ι H S d e v u Q rep r1 r2 p
  unfold vIx at p
  split at p
  · rename_i ds i
    split at p
    · rename_i d' hd
      obtain ⟨a, vs, rfl, h1, h2⟩ := r1
      obtain ⟨w, h3, h4⟩ := h2.atI hd
      exact .inr (.inl ⟨a, vs, i, w, rfl, r2, h1, h3, p _ H ι (Ext.refl _ _) rep h4⟩)
    · exact p.elim
  · rename_i ds i
    split at p
    · rename_i d' hd
      obtain ⟨a, vs, rfl, h1, h2⟩ := r1
      obtain ⟨w, h3, h4⟩ := h2.atI hd
      exact .inl ⟨a, vs, i, w, rfl, r2, h1.sql, h3, p _ H ι (Ext.refl _ _) rep h4⟩
    · exact p.elim
  · rename_i x i
    split at p
    · rename_i hl
      split at p
      · rename_i c hc
        refine .inr (.inr ⟨_, i, c, r1, r2, by rw [← line_eq]; exact (show x.toArray.size ≤ LINE by simpa using hl), by simpa using hc, ?_⟩)
        exact p _ H ι (Ext.refl _ _) rep rfl
      · exact p.elim
    · exact p.elim
  · rename_i n i
    split at p
    · rename_i ds hds
      split at p
      · rename_i d' hd
        obtain ⟨a, h1, rfl⟩ := r1
        obtain ⟨vs, h2, h3⟩ := rep.cell _ _ a hds h1
        obtain ⟨w, h4, h5⟩ := h3.atI hd
        exact .inl ⟨a, vs, i, w, rfl, r2, .of h2, h4, p _ H ι (Ext.refl _ _) rep h5⟩
      · exact p.elim
    · exact p.elim
  · exact p.elim
/-- a part of a slice -/
abbrev O := EnvD → Sto → R (Option Int)
def oNone : O := fun _ S => .ok none S
def oSome (a : E) : O := fun env S => (a env S).bind fun d S1 => match d with
  | .int i => .ok (some i) S1
  | _ => .stuck
def RO (_ : List Addr) (_ : Hp) (a b : Option Int) : Prop := a = b
def tO (G : Gm) (W : WS) (f : O) : TO := fun σ H Q => ∃ ι env S, Rep G ι H S ∧ EnvR G ι H env σ ∧ Post G RO (fun c d H' => W c d σ H') ι H (f env S) Q
structure FO (X : Cx) (W : WS) (e : Option Expr) (f : O) : Prop where
  po : PO X e (tO (gm X) W f)
def cutD {α : Type} (xs : List α) (lo hi : Option Int) : List α := (xs.drop (HT.sIx xs.length 0 lo)).take (HT.sIx xs.length xs.length hi - HT.sIx xs.length 0 lo)
def vSl (d : D) (lo hi : Option Int) (S : Sto) : R D := match d with
  | .tup ds => .ok (.tup (cutD ds lo hi)) S
  | .frl ds => .ok (.ref S.length) (S ++ [.lst (cutD ds lo hi)])
  | .ref n => match S[n]? with
    | some (.lst ds) => .ok (.ref S.length) (S ++ [.lst (cutD ds lo hi)])
    | _ => .stuck
  | .str x => if x.length ≤ LINE then .ok (.str (cutD x lo hi)) S else .stuck
  | _ => .stuck
def eSl (a : E) (lo hi : O) : E := fun env S => (a env S).bind fun d S1 => (lo env S1).bind fun l S2 => (hi env S2).bind fun u S3 => vSl d l u S3
section
variable {X : Cx} {W : WS} {e : Expr} {lo hi : Option Expr} {f : E} {fl fh : O} {pos p2 : Pos}
theorem PO.weak {oe : Option Expr} {t t' : TO} (h : PO X oe t) (k : ∀ σ H Q, t' σ H Q → t σ H Q) : PO X oe t' := ⟨fun pins s σ H Q I q => h.run pins s σ H Q I (k σ H Q q)⟩
theorem fo_none : FO X W none oNone := by
  refine ⟨PO.weak po_none fun σ H Q h => ?_⟩
  obtain ⟨ι, env, S, rep, er, p⟩ := h
  exact p none H ι (Ext.refl _ _) rep rfl
theorem fo_some (he : FE X W e f) : FO X W (some e) (oSome f) := by
  refine ⟨PO.weak (po_some he.pe) fun σ H Q h => ?_⟩
  obtain ⟨ι, env, S, rep, er, p⟩ := h
  refine ⟨ι, env, S, rep, er, Post.imp (Post.bind p) fun v H1 q => ?_⟩
  obtain ⟨d, S1, ι1, e1, rep1, rv, q⟩ := q
  split at q
  · exact ⟨_, rv, q _ H1 ι1 (Ext.refl _ _) rep1 rfl⟩
  · exact q.elim
theorem RVs.cut {G : Gm} {ι : List Addr} {H : Hp} {ds : List D} {vs : List V} (h : RVs G ι H ds vs) (lo hi : Option Int) : RVs G ι H (cutD ds lo hi) (cutV vs lo hi) := by
  unfold cutD cutV
  rw [← h.length]
  exact RVs.take _ (RVs.drop _ h)
def rSlAll (K : PySem.W.Frag) : V → Option Int → Option Int → Hp → VK → Prop := fun x l u H Q => (rSlA K x l u H Q ∨ rSlL K x l u H Q) ∨ rSlS x l u H Q
theorem sl_all : SlR X (rSlAll X.K) := (sl_tupA.or sl_list).or sl_str
theorem v_sl {G : Gm} {Wp : WP} {ι : List Addr} {H : Hp} {S : Sto} {d : D} {v : V} {l u : Option Int} {Q : VK} (rep : Rep G ι H S) (r : RV G ι H d v) (p : Post G (RV G) Wp ι H (vSl d l u S) Q) : rSlAll G.K v l u H Q := by
  unfold vSl at p
  split at p
  · rename_i ds
    obtain ⟨a, vs, rfl, h1, h2⟩ := r
    refine .inl (.inl ⟨a, vs, rfl, h1, fun z => ?_, fun z q hq => post_tup (Wp := Wp) rep (h2.cut l u) hq p⟩)
    have e : cutD ds l u = ds := by
      unfold cutD
      rw [h2.length, z.1, z.2]
      simp only [List.drop_zero, Nat.sub_zero]
      rw [← h2.length]
      exact List.take_length
    rw [e] at p
    exact p _ H ι (Ext.refl _ _) rep ⟨a, vs, rfl, h1, h2⟩
  · rename_i ds
    obtain ⟨a, vs, rfl, h1, h2⟩ := r
    exact .inl (.inr ⟨a, vs, rfl, h1.sql, fun q hq => post_lst rep (h2.cut l u) hq p⟩)
  · rename_i n
    split at p
    · rename_i ds hds
      obtain ⟨a, h1, rfl⟩ := r
      obtain ⟨vs, h2, h3⟩ := rep.cell _ _ a hds h1
      exact .inl (.inr ⟨a, vs, rfl, .of h2, fun q hq => post_lst rep (h3.cut l u) hq p⟩)
    · exact p.elim
  · rename_i x
    split at p
    · rename_i hl
      refine .inr ⟨_, r, by rw [← line_eq]; exact (show x.toArray.size ≤ LINE by simpa using hl), p _ H ι (Ext.refl _ _) rep ?_⟩
      rfl
    · exact p.elim
  · exact p.elim
theorem fe_sl (he : FE X W e f) (hl : FO X W lo fl) (hh : FO X W hi fh) : FE X W (.Subscript e (.Slice lo hi none p2) pos) (eSl f fl fh) := by
  refine ⟨PE.weak (pe_slice sl_all he.pe hl.po hh.po) fun σ H Q h => ?_⟩
  obtain ⟨ι, env, S, rep, er, p⟩ := h
  refine ⟨ι, env, S, rep, er, Post.imp (Post.bind p) fun v H1 q => ?_⟩
  obtain ⟨d, S1, ι1, e1, rep1, rv, q⟩ := q
  refine ⟨ι1, env, S1, rep1, er.ext e1, Post.imp (Post.bind (Rel := RO) q) fun l H2 q2 => ?_⟩
  obtain ⟨l', S2, ι2, e2, rep2, rfl, q2⟩ := q2
  refine ⟨ι2, env, S2, rep2, (er.ext e1).ext e2, Post.imp (Post.bind (Rel := RO) q2) fun u H3 q3 => ?_⟩
  obtain ⟨u', S3, ι3, e3, rep3, rfl, q3⟩ := q3
  exact v_sl rep3 (RV.ext e3 _ _ (RV.ext e2 _ _ rv)) q3
end
end Fz

/-! Fz6: built-ins by name, methods, defs. -/
namespace Fz
open PySem PySem.Spec PyProof.Rows L2

/-- the last cells are dropped where nothing refers to them -/
def noRef (n : Nat) : D → Bool
  | .ref k => decide (k < n)
  | .tup ds => noRefs n ds
  | .frl ds => noRefs n ds
  | _ => true
where noRefs (n : Nat) : List D → Bool
  | [] => true
  | d :: ds => noRef n d && noRefs n ds
def noRefK (n : Nat) : List (Key × D) → Bool
  | [] => true
  | (_, d) :: r => noRef n d && noRefK n r
def cellNo (n : Nat) : Cell → Bool
  | .lst ds => noRef.noRefs n ds
  | .dk kvs => noRefK n kvs
def gcV (n : Nat) (d : D) (S : Sto) : R D :=
  if (S.take n).all (cellNo n) = true then
    (if noRef n d = true then .ok d (S.take n)
      else match d with
        | .ref k => match S[k]? with
          | some c => if n ≤ k ∧ cellNo n c = true then .ok (.ref n) (S.take n ++ [c]) else .ok d S
          | none => .ok d S
        | _ => .ok d S)
  else .ok d S
/-- an expression whose new cells are dropped -/
def eGc (f : E) : E := fun env S => (f env S).bind (gcV S.length)
section
variable {G : Gm} {ι : List Addr} {H : Hp} {S : Sto}
mutual
theorem RV.low {n : Nat} : ∀ (d : D) (v : V), noRef n d = true → RV G ι H d v → RV G (ι.take n) H d v
  | .non, v, _, h => h
  | .bl b, v, _, h => h
  | .int i, v, _, h => h
  | .str x, v, _, h => h
  | .tup ds, v, e, h => by
    obtain ⟨a, vs, rfl, h1, h2⟩ := h
    exact ⟨a, vs, rfl, h1, RVs.low ds vs (by simpa only [noRef] using e) h2⟩
  | .frl ds, v, e, h => by
    obtain ⟨a, vs, rfl, h1, h2⟩ := h
    exact ⟨a, vs, rfl, h1, RVs.low ds vs (by simpa only [noRef] using e) h2⟩
  | .ref k, v, e, h => by
    obtain ⟨a, h1, rfl⟩ := h
    have hk : k < n := by simpa [noRef] using e
    exact ⟨a, by rw [List.getElem?_take, if_pos hk]; exact h1, rfl⟩
  | .fn x, v, _, h => h
theorem RVs.low {n : Nat} : ∀ (ds : List D) (vs : List V), noRef.noRefs n ds = true → RVs G ι H ds vs → RVs G (ι.take n) H ds vs
  | [], vs, _, h => h
  | d :: ds, vs, e, h => by
    obtain ⟨v, vr, rfl, h1, h2⟩ := h
    simp only [noRef.noRefs, Bool.and_eq_true] at e
    exact ⟨v, vr, rfl, RV.low d v e.1 h1, RVs.low ds vr e.2 h2⟩
end
theorem RKV.low {n : Nat} : ∀ (ds : List (Key × D)) (vs : List (Key × V)), noRefK n ds = true → RKV G ι H ds vs → RKV G (ι.take n) H ds vs
  | [], vs, _, h => h
  | (k, d) :: ds, vs, e, h => by
    obtain ⟨v, vr, rfl, h1, h2⟩ := h
    simp only [noRefK, Bool.and_eq_true] at e
    exact ⟨v, vr, rfl, RV.low d v e.1 h1, RKV.low ds vr e.2 h2⟩
theorem CellOk.low {n : Nat} {a : Addr} {c : Cell} (e : cellNo n c = true) (h : CellOk G ι H a c) : CellOk G (ι.take n) H a c := by
  cases c with
  | lst ds => obtain ⟨vs, h1, h2⟩ := h; exact ⟨vs, h1, RVs.low _ _ e h2⟩
  | dk kvs => obtain ⟨vs, h1, h2⟩ := h; exact ⟨vs, h1, RKV.low _ _ e h2⟩
theorem Rep.low (r : Rep G ι H S) {n : Nat} (e : (S.take n).all (cellNo n) = true) : Rep G (ι.take n) H (S.take n) :=
  r.take n fun i c a h1 h2 => by
    have h3 : S[i]? = some c := by
      rw [List.getElem?_take] at h1
      split at h1
      · exact h1
      · cases h1
    exact (r.cell i c a h3 h2).low (List.all_eq_true.mp e c (List.mem_of_getElem? h1))
theorem gc_post {W : WP} {ι0 : List Addr} {H0 : Hp} {n : Nat} {d : D} {S' : Sto} {v : V} {Q : VK} (hn : ι0.length = n) (ex : Ext ι0 H0 ι H) (rep : Rep G ι H S') (rv : RV G ι H d v) (p : Post G (RV G) W ι0 H0 (gcV n d S') Q) : Q v H := by
  have exl : Ext ι0 H0 (ι.take n) H := ⟨⟨fun i a e => by
    have hi : i < n := by
      rcases Nat.lt_or_ge i ι0.length with h' | h'
      · omega
      · rw [List.getElem?_eq_none h'] at e; cases e
    rw [List.getElem?_take, if_pos hi]
    exact ex.pre i a e, ex.tups, ex.frzs⟩, ex.keep, fun i a e => by
      rw [List.getElem?_take] at e
      split at e
      · exact ex.new i a e
      · cases e⟩
  unfold gcV at p
  split at p
  · rename_i hS
    split at p
    · rename_i hd
      exact p v H _ exl (rep.low hS) (RV.low d v hd rv)
    · split at p
      · rename_i k _
        split at p
        · rename_i c hc
          split at p
          · rename_i hk
            obtain ⟨a, h1, rfl⟩ := rv
            have ha : ∀ i : Nat, (ι.take n)[i]? ≠ some a := fun i e => by
              rw [List.getElem?_take] at e
              split at e
              · rename_i hi
                have := rep.inj i k a e h1
                omega
              · cases e
            have hl : (ι.take n).length = n := by
              have : k < ι.length := by
                rcases Nat.lt_or_ge k ι.length with h' | h'
                · exact h'
                · rw [List.getElem?_eq_none h'] at h1; cases h1
              rw [List.length_take]
              omega
            have cl := (rep.cell k c a hc h1).low (n := n) hk.2
            have x0 : Ext0 (ι.take n) H (ι.take n ++ [a]) H := ⟨fun i b e => by
              have hi : i < (ι.take n).length := by
                rcases Nat.lt_or_ge i (ι.take n).length with h' | h'
                · exact h'
                · rw [List.getElem?_eq_none h'] at e; cases e
              rw [List.getElem?_append_left hi]; exact e, fun _ _ e => e, fun _ _ _ e => e⟩
            refine p (.ref a) H (ι.take n ++ [a]) ⟨⟨fun i b e => x0.pre i b (exl.pre i b e), exl.tups, exl.frzs⟩, exl.keep, fun i b e => ?_⟩ ((rep.low hS).take_in ha (cl.ext x0 rfl)) ⟨a, by rw [List.getElem?_append_right (by omega), hl]; simp, rfl⟩
            rcases get_push e with z | ⟨_, z⟩
            · exact exl.new i b z
            · rw [z]; exact ex.new k a h1
          · exact p v H ι ex rep rv
        · exact p v H ι ex rep rv
      · exact p v H ι ex rep rv
  · exact p v H ι ex rep rv
end
theorem fe_gc {X : Cx} {W : WS} {e : Expr} {f : E} (h : FE X W e f) : FE X W e (eGc f) := by
  refine ⟨PE.weak h.pe fun σ H Q h => ?_⟩
  obtain ⟨ι, env, S, rep, er, p⟩ := h
  refine ⟨ι, env, S, rep, er, ?_⟩
  have p0 : Post (gm X) (RV (gm X)) (fun c d H' => W c d σ H') ι H ((f env S).bind (gcV S.length)) Q := p
  cases hf : f env S with
  | stuck => rw [hf] at p0; exact p0.elim
  | exc C fs S' => rw [hf] at p0; exact p0
  | ok d S' =>
    rw [hf] at p0
    exact fun v H' ι' ex rep' rv => gc_post rep.len ex rep' rv p0

/-! ### built-ins -/
def vLen : List D → Sto → R D
  | [.str x], S => if x.length ≤ LINE then .ok (.int x.length) S else .stuck
  | [.tup ds], S => .ok (.int ds.length) S
  | [.frl ds], S => .ok (.int ds.length) S
  | [.ref n], S => match S[n]? with
    | some (.lst ds) => .ok (.int ds.length) S
    | _ => .stuck
  | _, _ => .stuck
def vAbs : List D → Sto → R D
  | [.int i], S => .ok (.int (if i < 0 then -i else i)) S
  | _, _ => .stuck
def vMax2 : List D → Sto → R D
  | [.int i, .int j], S => .ok (.int (if j > i then j else i)) S
  | _, _ => .stuck
def vMin2 : List D → Sto → R D
  | [.int i, .int j], S => .ok (.int (if j < i then j else i)) S
  | _, _ => .stuck
def vInt : List D → Sto → R D
  | [.int i], S => .ok (.int i) S
  | [.bl k], S => .ok (.int (if k then 1 else 0)) S
  | _, _ => .stuck
def vGcd : List D → Sto → R D
  | [.int i, .int j], S => .ok (.int ((Nat.gcd i.natAbs j.natAbs : Nat) : Int)) S
  | _, _ => .stuck
instance (i j : Int) : Decidable (CDiv i j) := by unfold CDiv; infer_instance
def vDivmod : List D → Sto → R D
  | [.int i, .int j], S => if CDiv i j then .ok (.tup [.int (i / j), .int (i % j)]) S else .stuck
  | _, _ => .stuck
def intsOf : List D → Option (List Int)
  | [] => some []
  | .int i :: r => (intsOf r).map (i :: ·)
  | _ => none
def blsOf : List D → Option (List Bool)
  | [] => some []
  | .bl i :: r => (blsOf r).map (i :: ·)
  | _ => none
def strsOf : List D → Option (List (List Nat))
  | [] => some []
  | .str i :: r => (strsOf r).map (i :: ·)
  | _ => none
/-- the items of a list -/
def lstOf (d : D) (S : Sto) : Option (List D) := match d with
  | .frl ds => some ds
  | .ref n => match S[n]? with
    | some (.lst ds) => some ds
    | _ => none
  | _ => none
def vSum : List D → Sto → R D
  | [d], S => match (lstOf d S).bind intsOf with
    | some ns => .ok (.int ns.sum) S
    | none => .stuck
  | _, _ => .stuck
def vAll : List D → Sto → R D
  | [d], S => match (lstOf d S).bind blsOf with
    | some bs => .ok (.bl (bs.all id)) S
    | none => .stuck
  | _, _ => .stuck
def vAny : List D → Sto → R D
  | [d], S => match (lstOf d S).bind blsOf with
    | some bs => .ok (.bl (bs.any id)) S
    | none => .stuck
  | _, _ => .stuck
def maxI : List Int → Int
  | [] => 0
  | [x] => x
  | x :: y :: r => max x (maxI (y :: r))
def minI : List Int → Int
  | [] => 0
  | [x] => x
  | x :: y :: r => min x (minI (y :: r))
def vMax : List D → Sto → R D
  | [d], S => match (lstOf d S).bind intsOf with
    | some (n :: ns) => .ok (.int (maxI (n :: ns))) S
    | _ => .stuck
  | _, _ => .stuck
def vMin : List D → Sto → R D
  | [d], S => match (lstOf d S).bind intsOf with
    | some (n :: ns) => .ok (.int (minI (n :: ns))) S
    | _ => .stuck
  | _, _ => .stuck
def vTuple : List D → Sto → R D
  | [.tup ds], S => .ok (.tup ds) S
  | [d], S => match lstOf d S with
    | some ds => .ok (.tup ds) S
    | none => .stuck
  | _, _ => .stuck
def vList : List D → Sto → R D
  | [.tup ds], S => .ok (.ref S.length) (S ++ [.lst ds])
  | [d], S => match lstOf d S with
    | some ds => .ok (.ref S.length) (S ++ [.lst ds])
    | none => .stuck
  | _, _ => .stuck
def costP : PyData → Nat
  | .none => 4
  | .bool _ => 5
  | .int _ => 600
  | .str x => 10 * x.length + 2
  | .list xs => costPs xs + 2
  | .tuple xs => costPs xs + 2
  | .dict _ => 0
where costPs : List PyData → Nat
  | [] => 0
  | x :: xs => costP x + 2 + costPs xs
def okShow (p : PyData) : Prop := p.showable = true ∧ p.hasDict = false ∧ p.depth ≤ 50 ∧ p.shown.length ≤ LINE
instance (p : PyData) : Decidable (okShow p) := by unfold okShow; infer_instance
def showD (p : PyData) : List Nat := p.shown.cps.toList
def vRepr : List D → Sto → R D
  | [d], S => match toPy S 40 d with
    | some p => if okShow p then .ok (.str (showD p)) S else .stuck
    | none => .stuck
  | _, _ => .stuck
section
variable {G : Gm} {ι : List Addr} {H : Hp} {S : Sto}
theorem lst_of {d : D} {v : V} {ds : List D} (rep : Rep G ι H S) (r : RV G ι H d v) (h : lstOf d S = some ds) : ∃ a vs, v = .ref a ∧ SqL G.K H a vs ∧ RVs G ι H ds vs := by
  unfold lstOf at h
  split at h
  · cases h
    obtain ⟨a, vs, rfl, h1, h2⟩ := r
    exact ⟨a, vs, rfl, h1.sql, h2⟩
  · split at h
    · rename_i hds
      cases h
      obtain ⟨a, h1, rfl⟩ := r
      obtain ⟨vs, h2, h3⟩ := rep.cell _ _ a hds h1
      exact ⟨a, vs, rfl, .of h2, h3⟩
    · cases h
  · cases h
theorem ints_vs : ∀ {ds : List D} {vs : List V} {ns : List Int}, RVs G ι H ds vs → intsOf ds = some ns → vs = ns.map V.int ∧ ds = ns.map D.int
  | [], vs, ns, h, e => by
    have e1 : vs = [] := h
    cases e
    exact ⟨e1, rfl⟩
  | d :: ds, vs, ns, h, e => by
    obtain ⟨v, vr, rfl, h1, h2⟩ := h
    cases d with
    | int i =>
      obtain ⟨ms, h3, rfl⟩ := Option.map_eq_some_iff.mp (show (intsOf ds).map (i :: ·) = some ns from e)
      obtain ⟨e1, e2⟩ := ints_vs h2 h3
      have e3 : v = .int i := h1
      subst e1 e3
      exact ⟨rfl, by rw [e2]; rfl⟩
    | _ => cases e
theorem bls_vs : ∀ {ds : List D} {vs : List V} {ns : List Bool}, RVs G ι H ds vs → blsOf ds = some ns → vs = ns.map V.bl
  | [], vs, ns, h, e => by
    have e1 : vs = [] := h
    cases e
    exact e1
  | d :: ds, vs, ns, h, e => by
    obtain ⟨v, vr, rfl, h1, h2⟩ := h
    cases d with
    | bl i =>
      obtain ⟨ms, h3, rfl⟩ := Option.map_eq_some_iff.mp (show (blsOf ds).map (i :: ·) = some ns from e)
      have e1 := bls_vs h2 h3
      have e3 : v = .bl i := h1
      subst e1 e3
      rfl
    | _ => cases e
theorem strs_vs : ∀ {ds : List D} {vs : List V} {ns : List (List Nat)}, RVs G ι H ds vs → strsOf ds = some ns → vs = (ns.map fun x => (⟨x.toArray⟩ : Str)).map V.str
  | [], vs, ns, h, e => by
    have e1 : vs = [] := h
    cases e
    exact e1
  | d :: ds, vs, ns, h, e => by
    obtain ⟨v, vr, rfl, h1, h2⟩ := h
    cases d with
    | str i =>
      obtain ⟨ms, h3, rfl⟩ := Option.map_eq_some_iff.mp (show (strsOf ds).map (i :: ·) = some ns from e)
      have e1 := strs_vs h2 h3
      have e3 : v = .str ⟨i.toArray⟩ := h1
      subst e1 e3
      rfl
    | _ => cases e
end
/-- one argument -/
theorem args1 {G : Gm} {ι : List Addr} {H : Hp} {d : D} {vs : List V} (h : RVs G ι H [d] vs) : ∃ v, vs = [v] ∧ RV G ι H d v := by
  obtain ⟨v, vr, rfl, h1, h2⟩ := h
  have e : vr = [] := h2
  subst e
  exact ⟨v, rfl, h1⟩
theorem args2 {G : Gm} {ι : List Addr} {H : Hp} {d e : D} {vs : List V} (h : RVs G ι H [d, e] vs) : ∃ v u, vs = [v, u] ∧ RV G ι H d v ∧ RV G ι H e u := by
  obtain ⟨v, vr, rfl, h1, h2⟩ := h
  obtain ⟨u, rfl, h3⟩ := args1 h2
  exact ⟨v, u, rfl, h1, h3⟩
section
variable {X : Cx}
def rLen (K : PySem.W.Frag) : List V → Hp → VK → Prop := fun xs H Q => ∃ x n, xs = [x] ∧ LenV K x H n ∧ Q (.int n) H
theorem v_len {G : Gm} : VN G vLen (rLen G.K) := by
  intro W ι H S ds vs Q rep rvs p
  unfold vLen at p
  split at p
  · split at p
    · rename_i x hl
      obtain ⟨v, rfl, r⟩ := args1 rvs
      exact ⟨v, _, rfl, by have e : v = .str _ := r; subst e; exact ⟨by rw [← line_eq]; exact (show x.toArray.size ≤ LINE by simpa using hl), rfl⟩, by
        have := p (.int x.length) H ι (Ext.refl _ _) rep rfl
        show Q (.int ((x.toArray.size : Nat) : Int)) H
        simpa using this⟩
    · exact p.elim
  · obtain ⟨v, rfl, r⟩ := args1 rvs
    obtain ⟨a, us, rfl, h1, h2⟩ := r
    exact ⟨_, _, rfl, .inr ⟨us, h1, rfl⟩, by rw [← h2.length]; exact p _ H ι (Ext.refl _ _) rep rfl⟩
  · obtain ⟨v, rfl, r⟩ := args1 rvs
    obtain ⟨a, us, rfl, h1, h2⟩ := r
    exact ⟨_, _, rfl, .inl ⟨us, h1.sql, rfl⟩, by rw [← h2.length]; exact p _ H ι (Ext.refl _ _) rep rfl⟩
  · split at p
    · rename_i hds
      obtain ⟨v, rfl, r⟩ := args1 rvs
      obtain ⟨a, h1, rfl⟩ := r
      obtain ⟨us, h2, h3⟩ := rep.cell _ _ a hds h1
      exact ⟨_, _, rfl, .inl ⟨us, .of h2, rfl⟩, by rw [← h3.length]; exact p _ H ι (Ext.refl _ _) rep rfl⟩
    · exact p.elim
  · exact p.elim
theorem v_abs {G : Gm} : VN G vAbs (fun xs H Q => ∃ i, xs = [.int i] ∧ Q (.int (if i < 0 then -i else i)) H) := by
  intro W ι H S ds vs Q rep rvs p
  unfold vAbs at p
  split at p
  · obtain ⟨v, rfl, r⟩ := args1 rvs
    have e : v = .int _ := r
    subst e
    exact ⟨_, rfl, p _ H ι (Ext.refl _ _) rep rfl⟩
  · exact p.elim
theorem v_int {G : Gm} : VN G vInt (fun xs H Q => (∃ i, xs = [.int i] ∧ Q (.int i) H) ∨ ∃ k, xs = [.bl k] ∧ Q (.int (if k then 1 else 0)) H) := by
  intro W ι H S ds vs Q rep rvs p
  unfold vInt at p
  split at p
  · obtain ⟨v, rfl, r⟩ := args1 rvs
    exact .inl ⟨_, congrArg (· :: []) r, p _ H ι (Ext.refl _ _) rep rfl⟩
  · obtain ⟨v, rfl, r⟩ := args1 rvs
    exact .inr ⟨_, congrArg (· :: []) r, p _ H ι (Ext.refl _ _) rep rfl⟩
  · exact p.elim
theorem v_max2 {G : Gm} : VN G vMax2 (fun xs H Q => ∃ i j, xs = [.int i, .int j] ∧ Q (.int (if j > i then j else i)) H) := by
  intro W ι H S ds vs Q rep rvs p
  unfold vMax2 at p
  split at p
  · obtain ⟨v, u, rfl, r, r2⟩ := args2 rvs
    have e : v = .int _ := r
    have e2 : u = .int _ := r2
    subst e e2
    exact ⟨_, _, rfl, p _ H ι (Ext.refl _ _) rep rfl⟩
  · exact p.elim
theorem v_min2 {G : Gm} : VN G vMin2 (fun xs H Q => ∃ i j, xs = [.int i, .int j] ∧ Q (.int (if j < i then j else i)) H) := by
  intro W ι H S ds vs Q rep rvs p
  unfold vMin2 at p
  split at p
  · obtain ⟨v, u, rfl, r, r2⟩ := args2 rvs
    have e : v = .int _ := r
    have e2 : u = .int _ := r2
    subst e e2
    exact ⟨_, _, rfl, p _ H ι (Ext.refl _ _) rep rfl⟩
  · exact p.elim
theorem v_gcd {G : Gm} : VN G vGcd rGcd := by
  intro W ι H S ds vs Q rep rvs p
  unfold vGcd at p
  split at p
  · obtain ⟨v, u, rfl, r, r2⟩ := args2 rvs
    have e : v = .int _ := r
    have e2 : u = .int _ := r2
    subst e e2
    exact ⟨_, _, rfl, p _ H ι (Ext.refl _ _) rep rfl⟩
  · exact p.elim
theorem v_divmod {G : Gm} : VN G vDivmod (fun xs H Q => ∃ i j, xs = [.int i, .int j] ∧ CDiv i j ∧ ∀ p, H p = none → Q (.ref p) (upd H p (.tup [.int (i / j), .int (i % j)]))) := by
  intro W ι H S ds vs Q rep rvs p
  unfold vDivmod at p
  split at p
  · split at p
    · rename_i hc
      obtain ⟨v, u, rfl, r, r2⟩ := args2 rvs
      have e : v = .int _ := r
      have e2 : u = .int _ := r2
      subst e e2
      exact ⟨_, _, rfl, hc, fun q hq => post_tup (Wp := W) rep (RVs.two (d := .int _) (e := .int _) (v := .int _) (u := .int _) rfl rfl) hq p⟩
    · exact p.elim
  · exact p.elim
theorem v_sum {G : Gm} : VN G vSum (rSum G.K) := by
  intro W ι H S ds vs Q rep rvs p
  unfold vSum at p
  split at p
  · split at p
    · rename_i ns hns
      obtain ⟨v, rfl, r⟩ := args1 rvs
      obtain ⟨es, h1, h2⟩ := Option.bind_eq_some_iff.mp hns
      obtain ⟨a, us, rfl, h3, h4⟩ := lst_of rep r h1
      obtain ⟨rfl, _⟩ := ints_vs h4 h2
      exact ⟨a, ns, rfl, h3, p _ H ι (Ext.refl _ _) rep rfl⟩
    · exact p.elim
  · exact p.elim
theorem v_all {G : Gm} : VN G vAll (rAll G.K) := by
  intro W ι H S ds vs Q rep rvs p
  unfold vAll at p
  split at p
  · split at p
    · rename_i ns hns
      obtain ⟨v, rfl, r⟩ := args1 rvs
      obtain ⟨es, h1, h2⟩ := Option.bind_eq_some_iff.mp hns
      obtain ⟨a, us, rfl, h3, h4⟩ := lst_of rep r h1
      have e := bls_vs h4 h2
      subst e
      exact ⟨a, ns, rfl, h3, p _ H ι (Ext.refl _ _) rep rfl⟩
    · exact p.elim
  · exact p.elim
theorem v_any {G : Gm} : VN G vAny (rAny G.K) := by
  intro W ι H S ds vs Q rep rvs p
  unfold vAny at p
  split at p
  · split at p
    · rename_i ns hns
      obtain ⟨v, rfl, r⟩ := args1 rvs
      obtain ⟨es, h1, h2⟩ := Option.bind_eq_some_iff.mp hns
      obtain ⟨a, us, rfl, h3, h4⟩ := lst_of rep r h1
      have e := bls_vs h4 h2
      subst e
      exact ⟨a, ns, rfl, h3, p _ H ι (Ext.refl _ _) rep rfl⟩
    · exact p.elim
  · exact p.elim
theorem maxI_mem : ∀ (ns : List Int), ns ≠ [] → maxI ns ∈ ns ∧ ∀ y ∈ ns, y ≤ maxI ns
  | [], h => absurd rfl h
  | [x], _ => by simp [maxI]
  | x :: y :: r, _ => by
    obtain ⟨h1, h2⟩ := maxI_mem (y :: r) (by simp)
    refine ⟨?_, fun z hz => ?_⟩
    · unfold maxI
      rcases Int.le_total x (maxI (y :: r)) with h | h
      · rw [Int.max_eq_right h]; exact List.mem_cons_of_mem _ h1
      · rw [Int.max_eq_left h]; exact List.mem_cons_self ..
    · unfold maxI
      rcases List.mem_cons.mp hz with e | e
      · rw [e]; exact Int.le_max_left _ _
      · exact Int.le_trans (h2 z e) (Int.le_max_right _ _)
theorem minI_mem : ∀ (ns : List Int), ns ≠ [] → minI ns ∈ ns ∧ ∀ y ∈ ns, minI ns ≤ y
  | [], h => absurd rfl h
  | [x], _ => by simp [minI]
  | x :: y :: r, _ => by
    obtain ⟨h1, h2⟩ := minI_mem (y :: r) (by simp)
    refine ⟨?_, fun z hz => ?_⟩
    · unfold minI
      rcases Int.le_total x (minI (y :: r)) with h | h
      · rw [Int.min_eq_left h]; exact List.mem_cons_self ..
      · rw [Int.min_eq_right h]; exact List.mem_cons_of_mem _ h1
    · unfold minI
      rcases List.mem_cons.mp hz with e | e
      · rw [e]; exact Int.min_le_left _ _
      · exact Int.le_trans (Int.min_le_right _ _) (h2 z e)
theorem v_max {G : Gm} : VN G vMax (rMax G.K) := by
  intro W ι H S ds vs Q rep rvs p
  unfold vMax at p
  split at p
  · split at p
    · rename_i n ns hns
      obtain ⟨v, rfl, r⟩ := args1 rvs
      obtain ⟨es, h1, h2⟩ := Option.bind_eq_some_iff.mp hns
      obtain ⟨a, us, rfl, h3, h4⟩ := lst_of rep r h1
      obtain ⟨rfl, _⟩ := ints_vs h4 h2
      refine ⟨a, n :: ns, rfl, h3, by simp, fun m hm hm2 => ?_⟩
      obtain ⟨g1, g2⟩ := maxI_mem (n :: ns) (by simp)
      have e : m = maxI (n :: ns) := Int.le_antisymm (g2 m hm) (hm2 _ g1)
      rw [e]
      exact p _ H ι (Ext.refl _ _) rep rfl
    · exact p.elim
  · exact p.elim
theorem v_min {G : Gm} : VN G vMin (rMin G.K) := by
  intro W ι H S ds vs Q rep rvs p
  unfold vMin at p
  split at p
  · split at p
    · rename_i n ns hns
      obtain ⟨v, rfl, r⟩ := args1 rvs
      obtain ⟨es, h1, h2⟩ := Option.bind_eq_some_iff.mp hns
      obtain ⟨a, us, rfl, h3, h4⟩ := lst_of rep r h1
      obtain ⟨rfl, _⟩ := ints_vs h4 h2
      refine ⟨a, n :: ns, rfl, h3, by simp, fun m hm hm2 => ?_⟩
      obtain ⟨g1, g2⟩ := minI_mem (n :: ns) (by simp)
      have e : m = minI (n :: ns) := Int.le_antisymm (hm2 _ g1) (g2 m hm)
      rw [e]
      exact p _ H ι (Ext.refl _ _) rep rfl
    · exact p.elim
  · exact p.elim
theorem v_tuple {G : Gm} : VN G vTuple (fun xs H Q => ∃ p ys, xs = [.ref p] ∧ ((SqL G.K H p ys ∧ ∀ l, H l = none → Q (.ref l) (upd H l (.tup ys))) ∨ (SqT G.K H p ys ∧ Q (.ref p) H))) := by
  intro W ι H S ds vs Q rep rvs p
  unfold vTuple at p
  split at p
  · obtain ⟨v, rfl, r⟩ := args1 rvs
    obtain ⟨a, us, rfl, h1, h2⟩ := r
    exact ⟨a, us, rfl, .inr ⟨h1, p _ H ι (Ext.refl _ _) rep ⟨a, us, rfl, h1, h2⟩⟩⟩
  · split at p
    · rename_i es hes
      obtain ⟨v, rfl, r⟩ := args1 rvs
      obtain ⟨a, us, rfl, h3, h4⟩ := lst_of rep r hes
      exact ⟨a, us, rfl, .inl ⟨h3, fun q hq => post_tup (Wp := W) rep h4 hq p⟩⟩
    · exact p.elim
  · exact p.elim
theorem v_list {G : Gm} : VN G vList (fun xs H Q => ∃ p ys, xs = [.ref p] ∧ (SqL G.K H p ys ∨ SqT G.K H p ys) ∧ ∀ l, H l = none → Q (.ref l) (upd H l (.lst ys))) := by
  intro W ι H S ds vs Q rep rvs p
  unfold vList at p
  split at p
  · obtain ⟨v, rfl, r⟩ := args1 rvs
    obtain ⟨a, us, rfl, h1, h2⟩ := r
    exact ⟨a, us, rfl, .inr h1, fun q hq => post_lst rep h2 hq p⟩
  · split at p
    · rename_i es hes
      obtain ⟨v, rfl, r⟩ := args1 rvs
      obtain ⟨a, us, rfl, h3, h4⟩ := lst_of rep r hes
      exact ⟨a, us, rfl, .inl h3, fun q hq => post_lst rep h4 hq p⟩
    · exact p.elim
  · exact p.elim
/-- repr of data, where nothing is being shown around -/
def rRepr (K : PySem.W.Frag) : List V → Hp → VK → Prop := fun xs H Q => ∃ v d, xs = [v] ∧ Dp K H v d ∧ okShow d ∧ Q (.str d.shown) H
theorem call_repr (hg : X.A.guards = some []) (hu : X.A.units + 60 < cLine) : CallR X (.builtin "repr") (rRepr X.K) := by
  intro pins s σ H xs us Q I r h
  obtain ⟨v, d, rfl, hd, ⟨h1, h2, h3, h4⟩, q⟩ := h
  obtain ⟨u, rfl, rx⟩ := vals1 r
  have hz : d.shown.length ≤ sizeLine := by rw [← line_eq]; exact h4
  obtain ⟨as, rd⟩ := Dp.reads I d v u hd rx
  have big : ∀ {a : Addr}, u = .ref a → wpAny (model X.prog X.w) X.A (call (.builtin "repr") [u]) (EP X pins σ Q) X.xe s := fun {a} e => by
    subst e
    refine repr_of_reads' rd h1 (PyData.noDict_hsm h2) hg (by omega) (fun _ _ e => e) (fun h' t' tk hk => ?_) hz
    exact ⟨.str d.shown, H, I.kept (t' := tk) hk, ⟨t', rfl⟩, q⟩
  cases hd with
  | non => cases rx; exact PySem.P.repr_of_none ⟨.str _, H, I.tok _, ⟨_, rfl⟩, q⟩
  | bl b => cases rx; exact PySem.P.repr_of_bool ⟨.str _, H, I.tok _, ⟨_, rfl⟩, q⟩
  | int i =>
    obtain ⟨t, rfl⟩ := rx
    exact PySem.P.repr_of_int (by simpa [PyData.showable] using h1) ⟨.str _, H, I.tok _, ⟨_, rfl⟩, q⟩
  | str x =>
    obtain ⟨t, rfl⟩ := rx
    exact PySem.P.repr_of_str ⟨.str _, H, I.tok _, ⟨_, rfl⟩, q⟩ hz
  | lst _ _ => exact big rx
  | tup _ _ => exact big rx
theorem v_repr {G : Gm} : VN G vRepr (rRepr G.K) := by
  intro W ι H S ds vs Q rep rvs p
  unfold vRepr at p
  split at p
  · split at p
    · rename_i q hq
      split at p
      · rename_i hs
        obtain ⟨v, rfl, r⟩ := args1 rvs
        refine ⟨v, q, rfl, dp_of rep 40 _ v q r hq, hs, p _ H ι (Ext.refl _ _) rep ?_⟩
        show V.str _ = V.str _
        congr 1
      · exact p.elim
    · exact p.elim
  · exact p.elim
end
end Fz

/-! Fz7: defs and their calls. -/
namespace Fz
open PySem PySem.Spec PyProof.Rows L2

abbrev Fn := List D → Sto → R D
def flR (n : Nat) (r : Fl) : R D := match r with
  | .nx _ S => gcV n .non S
  | .rt d S => gcV n d S
  | .exc C fs S => .exc C fs S
  | _ => .stuck
/-- a def of np parameters and N names in all -/
def defF (np N : Nat) (body : Sm) : Fn := fun ds S => if ds.length = np then flR S.length (body (ds.map some ++ List.replicate (N - np) none) S) else .stuck
/-- the def at f does as F; nothing is being shown around -/
structure FnG (P : Program) (w : World) (K : PySem.W.Frag) (mg : Str → Option Value) (base : Heap) (k : Nat) (f : Addr) (fd : FuncData) (ps : List Str) (F : Fn) : Prop where
  run : ∀ (A : Around) (outer : List Env) (s : Shared) (H : Hp) (args : Args) (us : List Value) (vs : List V) (Q : VK) (E : XK) (ι : List Addr) (ds : List D) (S : Sto),
    A.guards = some [] → Room k A → Env0 P w K mg base A outer s H → BindsTo s fd args (ps.zip us) → Vals vs us → Rep ⟨K, mg⟩ ι H S → RVs ⟨K, mg⟩ ι H ds vs → ds.length = ps.length →
    Post ⟨K, mg⟩ (RV ⟨K, mg⟩) (fun c d H' => E c d H') ι H (F ds S) Q → codeAny (model P w) A (.call (.ref f) args) (CR (L2.CX P w) outer P w H s Q E) s
theorem FnG.mono {P : Program} {w : World} {K : PySem.W.Frag} {mg : Str → Option Value} {base : Heap} {j k : Nat} {f : Addr} {fd : FuncData} {ps : List Str} {F : Fn} (h : FnG P w K mg base j f fd ps F) (le : j ≤ k) : FnG P w K mg base k f fd ps F :=
  ⟨fun A outer s H args us vs Q E ι ds S hg hr => h.run A outer s H args us vs Q E ι ds S hg (hr.mono le)⟩
section
variable {P : Program} {w : World} {K : PySem.W.Frag} {mg : Str → Option Value} {base : Heap}
theorem start_env {G : Gm} {ι : List Addr} {H : Hp} {N : List Str} {ds : List D} {vs : List V} (h : RVs G ι H ds vs) : EnvR G ι H (ds.map some ++ List.replicate (N.length - ds.length) none) (L2.start N vs) := by
  have hl := h.length
  refine ⟨by unfold L2.start; simp [hl], fun i d q => ?_⟩
  by_cases hi : i < ds.length
  · rw [List.getElem?_append_left (by simpa using hi), List.getElem?_map] at q
    have q2 : ds[i]? = some d := by
      cases e : ds[i]? with
      | none => rw [e] at q; cases q
      | some x => rw [e] at q; cases q; rfl
    obtain ⟨v, h1, h2⟩ := h.get q2
    refine ⟨v, ?_, h2⟩
    unfold L2.start
    rw [List.getElem?_append_left (by simpa [← hl] using hi), List.getElem?_map, h1]
    rfl
  · rw [List.getElem?_append_right (by simpa using hi), List.getElem?_replicate] at q
    split at q <;> cases q
theorem flR_post {G : Gm} {W : WS} {ι : List Addr} {H : Hp} {n : Nat} {r : Fl} {Q : VK} {E : WP} (hn : ι.length = n) (hW : ∀ c d σ H', W c d σ H' ↔ E c d H') (p : Post G (RV G) E ι H (flR n r) Q) : PostS G W ι H r { nx := fun _ H' => Q .non H', rt := Q } := by
  cases r with
  | nx env S => exact fun σ H' ι' ex rep er => gc_post (d := .non) (v := .non) hn ex rep rfl p
  | rt d S => exact fun v H' ι' ex rep rv => gc_post hn ex rep rv p
  | exc C fs S => exact fun c dx fv σ H' ι' m ex rep q z => (hW _ _ _ _).mpr (p c dx fv H' ι' m ex rep q z)
  | bk env S => exact p.elim
  | ct env S => exact p.elim
  | stuck => exact p.elim
/-- a def of the text by what its body does -/
theorem fng_of {k : Nat} {f : Addr} {name qual : Str} {params : Arguments} {body : List Stmt} {scope : Scope} {dV kV doc pm cdv ct oc : Value} {an od : Option Addr} {osl : Array (Option Value)} {N ps : List Str} {fb : Sm}
    (lk : K.lookup f = some ⟨oc, od, .func (PySem.W.fnOf name qual params body scope dV kV doc pm an cdv ct), osl⟩) (hcd : PySem.W.codeIn K cdv qual = true) (Sc : FnScope N ps scope)
    (hbody : ∀ (A : Around) (outer : List Env) (s : Shared) (H : Hp) (E : XK), A.guards = some [] → Room k (A.deeper (envOfC qual scope s.heap.objs.size f cdv)) →
      FSs (cxOf (L2.CX P w) P w K mg base N qual scope f cdv A outer s H E) (fun c d _ H' => E c d H') body fb) :
    FnG P w K mg base (k + 1) f (PySem.W.fnOf name qual params body scope dV kV doc pm an cdv ct) ps (defF ps.length N.length fb) := by
  constructor
  intro A outer s H args us vs Q E ι ds S gd room e0 bnd vals rep rvs hlen post
  have kx : K.In s.heap :=
    e0.mod.kin.keeps fun b o e => (e0.bs b o e).1
  have nl : s.heap.NoLimit :=
    e0.mod.nolimit.keeps fun b o e => (e0.bs b o e).1
  have lvs : vs.length = ps.length := rvs.length.symm.trans hlen
  have kinds : ∀ y ∈ ps.zip us, scope.names.lookup y.1 = some .local ∨ (scope.names.lookup y.1 = some .cell ∧
      ((cellsFrom (s.heap.objs.size + 1) scope.names []).lookup y.1).isSome = true) := by
    rintro ⟨n, v⟩ hy
    cases Sc.par n (List.of_mem_zip hy).1 with
    | inl q => exact .inl q
    | inr q => exact .inr ⟨q, PySem.W.cellsFrom_some _ _ _ (.inl q)⟩
  apply codeAny_call_function room.depth (kx _ _ lk) rfl Sc.co Sc.gen rfl (PySem.W.codeRec_of kx hcd) (bnd _ _ _ _ ?_)
  apply wpAny_newFunctionEnv_cells Sc.kind kinds
  intro env he s1 x
  subst he
  refine ⟨nl.keeps x.toInCall.keep, codeAny_func ?_⟩
  have fs := hbody A outer s H E gd (room.deeper _)
  have inv : Inv (cxOf (L2.CX P w) P w K mg base N qual scope f cdv A outer s H E) [] (L2.start N vs) H s1 :=
    inv_start Sc room.hd e0 lvs vals x
  have post' : Post ⟨K, mg⟩ (RV ⟨K, mg⟩) (fun c d H' => E c d H') ι H (flR S.length (fb (ds.map some ++ List.replicate (N.length - ds.length) none) S)) Q := by
    unfold defF at post
    rw [if_pos hlen, ← hlen] at post
    exact post
  have tsd : tS (gm (cxOf (L2.CX P w) P w K mg base N qual scope f cdv A outer s H E)) (fun c d _ H' => E c d H') fb { nx := fun _ H' => Q .non H', rt := Q } (L2.start N vs) H :=
    ⟨ι, _, S, rep, start_env rvs, flR_post rep.len (fun _ _ _ _ => Iff.rfl) post'⟩
  refine wpAny_mono (fs.pss.run [] s1 (L2.start N vs) H _ inv tsd) (fun fl s' hs => ?_) fun e s' hs => hs
  cases fl with
  | ret u =>
    obtain ⟨v, σ', H', J, rv, q⟩ := hs
    exact ⟨v, H', J.os, J.bare, J.base, J.hok, rv, q⟩
  | next =>
    obtain ⟨σ', H', J, q⟩ := hs
    exact ⟨.non, H', J.os, J.bare, J.base, J.hok, rfl, q⟩
  | brk => exact False.elim hs.choose_spec.choose_spec.2
  | cont => exact False.elim hs.choose_spec.choose_spec.2
end

/-! ### calls -/
def permL {α : Type} (pm : List Nat) (l : List α) : List α := pm.filterMap fun i => l[i]?
theorem RVs.perm {G : Gm} {ι : List Addr} {H : Hp} {ds : List D} {vs : List V} (h : RVs G ι H ds vs) : ∀ pm : List Nat, RVs G ι H (permL pm ds) (permL pm vs)
  | [] => rfl
  | i :: pm => by
    have ih := RVs.perm h pm
    unfold permL at ih ⊢
    by_cases hi : i < ds.length
    · obtain ⟨v, h1, h2⟩ := h.get (show ds[i]? = some ds[i] by simp [hi])
      rw [List.filterMap_cons_some (b := ds[i]) (by simp [hi]), List.filterMap_cons_some (b := v) h1]
      exact ⟨v, _, rfl, h2, ih⟩
    · rw [List.filterMap_cons_none (by simp; omega), List.filterMap_cons_none (by rw [List.getElem?_eq_none]; rw [← h.length]; omega)]
      exact ih
theorem Vals.perm {vs : List V} {us : List Value} (h : Vals vs us) : ∀ pm : List Nat, Vals (permL pm vs) (permL pm us)
  | [] => .nil
  | i :: pm => by
    have ih := Fz.Vals.perm h pm
    unfold permL at ih ⊢
    by_cases hi : i < vs.length
    · obtain ⟨v, h1, h2⟩ := L2.Vals.get h (show vs[i]? = some vs[i] by simp [hi])
      rw [List.filterMap_cons_some (b := vs[i]) (by simp [hi]), List.filterMap_cons_some (b := v) h1]
      exact .cons h2 ih
    · rw [List.filterMap_cons_none (by simp; omega), List.filterMap_cons_none (by rw [List.getElem?_eq_none]; rw [← h.length]; omega)]
      exact ih
/-- how n arguments, then the keywords ks, are bound: pm by place; defaults behind them -/
def BindK (K : PySem.W.Frag) (fd : FuncData) (ps : List Str) (n : Nat) (ks : List Str) (pm : List Nat) (dvs : List Value) : Prop :=
  ∀ (s : Shared) (us ws : List Value), K.In s.heap → us.length = n → ws.length = ks.length → BindsTo s fd ⟨us, ks.zip ws⟩ (ps.zip (permL pm (us ++ ws ++ dvs)))
/-- f(..): the arguments, the keywords' values, the defaults -/
def cF (n m : Nat) (pm : List Nat) (dds : List D) (np : Nat) (F : Fn) : Fn := fun ds S => if ds.length = n + m ∧ (permL pm (ds ++ dds)).length = np then F (permL pm (ds ++ dds)) S else .stuck
section
variable {X : Cx} {W : WS} {k : Nat} {f : Addr} {fd : FuncData} {ps ks : List Str} {F : Fn} {x : Str} {p pos : Pos} {e : Expr} {es : List Expr} {fs fk : As} {n : Nat} {pm : List Nat} {dds : List D} {dvs : List V} {dus : List Value}
theorem run_g {pins : List (Addr × Obj)} {σ : L2.St} {H : Hp} {s : Shared} {Q : VK} {us ws : List Value} {vs zs : List V} {ι : List Addr} {ds : List D} {S : Sto} (hF : FnG X.prog X.w X.K X.mg X.base k f fd ps F) (hgd : X.A.guards = some []) (hr : Room k X.A) (tk : Takes X W)
    (hb : BindK X.K fd ps n ks pm dus) (hd : Vals dvs dus) (hdd : ∀ ι H, RVs (gm X) ι H dds dvs) (hn : us.length = n) (hm : ws.length = ks.length)
    (I : Inv X pins σ H s) (r : Vals vs us) (rz : Vals zs ws) (rep : Rep (gm X) ι H S) (rvs : RVs (gm X) ι H ds (vs ++ zs)) (h : Post (gm X) (RV (gm X)) (fun c d H' => W c d σ H') ι H (cF n ks.length pm dds ps.length F ds S) Q) :
    wpAny (model X.prog X.w) X.A (call (.ref f) us (ks.zip ws)) (EP X pins σ Q) X.xe s := by
  unfold cF at h
  split at h
  · rename_i hl
    have rall : RVs (gm X) ι H (permL pm (ds ++ dds)) (permL pm (vs ++ zs ++ dvs)) := RVs.perm (RVs.append rvs (hdd ι H)) pm
    have vall : Vals (permL pm (vs ++ zs ++ dvs)) (permL pm (us ++ ws ++ dus)) := Fz.Vals.perm ((r.append rz).append hd) pm
    apply wpAny_call
    refine codeAny_mono (hF.run X.A X.stack s H ⟨us, ks.zip ws⟩ _ _ Q (fun c d H' => W c d σ H') ι _ S hgd hr I.env0 (hb s us ws I.kIn hn hm) vall rep rall hl.2 h) fun res s' hq => ?_
    cases res with
    | error er => exact passAt tk σ pins H s er s' I hq
    | ok fl =>
      cases fl with
      | ret u => exact I.after hq
      | next => exact False.elim hq
      | brk => exact False.elim hq
      | cont => exact False.elim hq
  · exact h.elim
theorem len_vs {G : Gm} {ι : List Addr} {H : Hp} {ds : List D} {vs : List V} {us : List Value} (r : Vals vs us) (rv : RVs G ι H ds vs) : us.length = ds.length := by rw [rv.length, L2.Vals.length r]
theorem fe_call (hF : FnG X.prog X.w X.K X.mg X.base k f fd ps F) (hgd : X.A.guards = some []) (hr : Room k X.A) (tk : Takes X W) (hm : X.mg x = some (.ref f)) (hk : PySem.W.keepIn X.K (.ref f) = true) (hb : BindK X.K fd ps n [] pm dus) (hd : Vals dvs dus) (hdd : ∀ ι H, RVs (gm X) ι H dds dvs)
    (ha : FA X W (e :: es) fs) (hg : Gl X x := by rfl) (hdb : (x == ("__debug__" : Str)) = false := by decide) (he : starEach (e :: es) X.env = (false, eval e X.env) :: starEach es X.env := by rfl) (hpl : (backTo pos (starEach es X.env)).any (·.1) = false := by rfl) :
    FE X W (.Call (.Name x p) (e :: es) [] pos) (eN (cF n 0 pm dds ps.length F) fs) := by
  constructor
  constructor
  rintro pins s σ H Q I ⟨ι, env, S, rep, er, post⟩
  refine wpAny_Call_Name_kw (ld_glob I hg hm ?_ hdb)
  have run := ha.pa.run pos pins s σ H _ I ⟨ι, env, S, rep, er, Post.bind post⟩
  refine PySem.W.callWith_K (h₀ := X.base) I.ok.mod.kin hk (thn run fun us s1 hq => ?_) he hpl
  obtain ⟨vs, H1, I1, r, ds, S1, ι1, ex, rep1, rvs, q⟩ := hq
  refine ⟨I1.kIn, ?_⟩
  by_cases hl : ds.length = n
  · exact run_g (ks := []) (ws := []) (zs := []) hF hgd hr tk hb hd hdd ((len_vs r rvs).trans hl) rfl I1 r .nil rep1 (by rw [List.append_nil]; exact rvs) q
  · unfold cF at q
    rw [if_neg (fun z => hl z.1)] at q
    exact q.elim
theorem fe_call0 (hF : FnG X.prog X.w X.K X.mg X.base k f fd ps F) (hgd : X.A.guards = some []) (hr : Room k X.A) (tk : Takes X W) (hm : X.mg x = some (.ref f)) (hk : PySem.W.keepIn X.K (.ref f) = true) (hb : BindK X.K fd ps 0 [] pm dus) (hd : Vals dvs dus) (hdd : ∀ ι H, RVs (gm X) ι H dds dvs)
    (hg : Gl X x := by rfl) (hdb : (x == ("__debug__" : Str)) = false := by decide) : FE X W (.Call (.Name x p) [] [] pos) (eN (cF 0 0 pm dds ps.length F) aNil) := by
  constructor
  constructor
  rintro pins s σ H Q I ⟨ι, env, S, rep, er, post⟩
  refine wpAny_Call_Name_kw (ld_glob I hg hm ?_ hdb)
  exact PySem.W.callWith_K0 I.kIn hk (run_g (ks := []) (us := []) (ws := []) (vs := []) (zs := []) (ds := []) hF hgd hr tk hb hd hdd rfl rfl I .nil .nil rep rfl post)
/-- the keywords' values -/
structure FK (X : Cx) (W : WS) (kws : List Keyword) (f : As) : Prop where
  pk : PK X kws (tA (gm X) W f)
theorem PK.weak {kws : List Keyword} {t t' : TA} (h : PK X kws t) (k : ∀ σ H Q, t' σ H Q → t σ H Q) : PK X kws t' := ⟨fun pos pins s σ H Q I q => h.run pos pins s σ H Q I (k σ H Q q)⟩
theorem fk_nil : FK X W [] aNil := by
  refine ⟨PK.weak pk_nil fun σ H Q h => ?_⟩
  obtain ⟨ι, env, S, rep, er, p⟩ := h
  exact p [] H ι (Ext.refl _ _) rep rfl
theorem fk_cons {kws : List Keyword} {nm : Option Str} {kpos : Pos} {fa : E} (ha : FE X W e fa) (hr : FK X W kws fs) : FK X W (⟨nm, e, kpos⟩ :: kws) (aCons fa fs) := by
  refine ⟨PK.weak (pk_cons ha.pe hr.pk) fun σ H Q h => ?_⟩
  obtain ⟨ι, env, S, rep, er, p⟩ := h
  refine ⟨ι, env, S, rep, er, Post.imp (Post.bind p) fun x H1 q => ?_⟩
  obtain ⟨d, S1, ι1, e1, rep1, rv, q⟩ := q
  refine ⟨ι1, env, S1, rep1, er.ext e1, Post.imp (Post.bind q) fun xs H2 q2 => ?_⟩
  obtain ⟨ds, S2, ι2, e2, rep2, rvs, q2⟩ := q2
  exact q2 (x :: xs) H2 ι2 (Ext.refl _ _) rep2 ⟨x, xs, rfl, RV.ext e2 _ _ rv, rvs⟩
def aApp (n m : Nat) (a b : As) : As := fun env S => (a env S).bind fun xs S1 => (b env S1).bind fun ys S2 => if xs.length = n ∧ ys.length = m then .ok (xs ++ ys) S2 else .stuck
theorem fe_callK {kws : List Keyword} (hF : FnG X.prog X.w X.K X.mg X.base k f fd ps F) (hgd : X.A.guards = some []) (hr : Room k X.A) (tk : Takes X W) (hm : X.mg x = some (.ref f)) (hk : PySem.W.keepIn X.K (.ref f) = true) (hb : BindK X.K fd ps n ks pm dus) (hd : Vals dvs dus) (hdd : ∀ ι H, RVs (gm X) ι H dds dvs)
    (ha : FA X W (e :: es) fs) (hkw : FK X W kws fk) (hall : (backToKw pos (keywordEach kws X.env)).all (·.1.isSome) = true := by rfl) (hks : (backToKw pos (keywordEach kws X.env)).filterMap (·.1) = ks := by rfl)
    (hlen : (e :: es).length = n := by rfl) (hlk : kws.length = ks.length := by rfl) (hg : Gl X x := by rfl) (hdb : (x == ("__debug__" : Str)) = false := by decide) (he : starEach (e :: es) X.env = (false, eval e X.env) :: starEach es X.env := by rfl)
    (hpl : ((backTo pos (starEach (e :: es) X.env)).any (·.1) || (backToKw pos (keywordEach kws X.env)).any (·.1.isNone)) = false := by rfl) :
    FE X W (.Call (.Name x p) (e :: es) kws pos) (eN (cF n ks.length pm dds ps.length F) (aApp n ks.length fs fk)) := by
  constructor
  constructor
  rintro pins s σ H Q I ⟨ι, env, S, rep, er, post⟩
  refine wpAny_Call_Name_kw (ld_glob I hg hm ?_ hdb)
  have post' : Post (gm X) (RV (gm X)) (fun c d H' => W c d σ H') ι H ((fs env S).bind fun xs S1 => (fk env S1).bind fun ys S2 => (if xs.length = n ∧ ys.length = ks.length then R.ok (xs ++ ys) S2 else .stuck).bind (cF n ks.length pm dds ps.length F)) Q := by
    have z : Post (gm X) (RV (gm X)) (fun c d H' => W c d σ H') ι H ((aApp n ks.length fs fk env S).bind (cF n ks.length pm dds ps.length F)) Q := post
    unfold aApp at z
    simpa only [bind_assoc] using z
  have run := ha.pa.run pos pins s σ H _ I ⟨ι, env, S, rep, er, Post.bind post'⟩
  refine PySem.W.callWith_KW (h₀ := X.base) I.ok.mod.kin hk hall (thn run fun us s1 hq => ?_) hpl he
  obtain ⟨vs, H1, I1, r, ds, S1, ι1, ex, rep1, rvs, q⟩ := hq
  have run2 := hkw.pk.run pos pins s1 σ H1 _ I1 ⟨ι1, env, S1, rep1, er.ext ex, Post.bind q⟩
  refine thn run2 fun ws s2 hq2 => ?_
  obtain ⟨zs, H2, I2, rz, es', S2, ι2, ex2, rep2, rzs, q2⟩ := hq2
  refine ⟨I2.kIn, ?_⟩
  rw [hks]
  have rall := RVs.append (RVs.ext ex2 _ _ rvs) rzs
  by_cases hl : ds.length = n ∧ es'.length = ks.length
  · rw [if_pos hl] at q2
    exact run_g hF hgd hr tk hb hd hdd ((len_vs r rvs).trans hl.1) ((len_vs rz rzs).trans hl.2) I2 r rz rep2 rall q2
  · rw [if_neg hl] at q2
    exact q2.elim
theorem fe_callK0 {kws : List Keyword} (hF : FnG X.prog X.w X.K X.mg X.base k f fd ps F) (hgd : X.A.guards = some []) (hr : Room k X.A) (tk : Takes X W) (hm : X.mg x = some (.ref f)) (hk : PySem.W.keepIn X.K (.ref f) = true) (hb : BindK X.K fd ps 0 ks pm dus) (hd : Vals dvs dus) (hdd : ∀ ι H, RVs (gm X) ι H dds dvs)
    (hkw : FK X W kws fk) (hall : (backToKw pos (keywordEach kws X.env)).all (·.1.isSome) = true := by rfl) (hks : (backToKw pos (keywordEach kws X.env)).filterMap (·.1) = ks := by rfl)
    (hlk : kws.length = ks.length := by rfl) (hg : Gl X x := by rfl) (hdb : (x == ("__debug__" : Str)) = false := by decide)
    (hpl : ((backTo pos (starEach [] X.env)).any (·.1) || (backToKw pos (keywordEach kws X.env)).any (·.1.isNone)) = false := by rfl) :
    FE X W (.Call (.Name x p) [] kws pos) (eN (cF 0 ks.length pm dds ps.length F) fk) := by
  constructor
  constructor
  rintro pins s σ H Q I ⟨ι, env, S, rep, er, post⟩
  refine wpAny_Call_Name_kw (ld_glob I hg hm ?_ hdb)
  have run := hkw.pk.run pos pins s σ H _ I ⟨ι, env, S, rep, er, Post.bind post⟩
  refine PySem.W.callWith_KW0 (h₀ := X.base) I.ok.mod.kin hk hall (thn run fun us s1 hq => ?_) hpl
  obtain ⟨zs, H1, I1, rz, ds, S1, ι1, ex, rep1, rzs, q⟩ := hq
  refine ⟨I1.kIn, ?_⟩
  rw [hks]
  by_cases hl : ds.length = 0 + ks.length
  · exact run_g (us := []) (vs := []) hF hgd hr tk hb hd hdd rfl (((len_vs rz rzs).trans hl).trans (Nat.zero_add _)) I1 .nil rz rep1 rzs q
  · unfold cF at q
    rw [if_neg (fun z => hl z.1)] at q
    exact q.elim
end
end Fz

/-! Fz8: methods, isinstance, stars, x[::-1]; the law's own head. -/
namespace Fz
open PySem PySem.Spec PyProof.Rows L2

/-! ### the type of a value -/
def tyN (d : D) (S : Sto) : Option String := match d with
  | .non => some "NoneType"
  | .bl _ => some "bool"
  | .int _ => some "int"
  | .str _ => some "str"
  | .tup _ => some "tuple"
  | .frl _ => some "list"
  | .ref n => match S[n]? with
    | some (.lst _) => some "list"
    | some (.dk _) => some "dict"
    | none => none
  | .fn _ => none
theorem tyN_ok {G : Gm} {ι : List Addr} {H : Hp} {S : Sto} {d : D} {v : V} {t : String} (rep : Rep G ι H S) (r : RV G ι H d v) (h : tyN d S = some t) : TyX G.K H v (.type t) := by
  unfold tyN at h
  split at h
  · cases h; have e : v = .non := r; subst e; exact .base .non
  · cases h; rename_i b; have e : v = .bl b := r; subst e; exact .base (.bl b)
  · cases h; rename_i b; have e : v = .int b := r; subst e; exact .base (.int b)
  · cases h; have e : v = .str _ := r; subst e; exact .base (.str _)
  · cases h
    obtain ⟨a, vs, rfl, h1, h2⟩ := r
    rcases h1 with (h1 | ⟨o, h1⟩) | ⟨o, its, n, h1, hc, _⟩
    · exact .base (.tup h1)
    · exact .fTuple h1
    · exact .kTuple h1 hc
  · cases h
    obtain ⟨a, vs, rfl, h1, h2⟩ := r
    rcases h1 with ⟨o, h1⟩ | ⟨o, its, n, h1, hc, _⟩
    · exact .base (.frz h1)
    · exact .kList h1 hc
  · split at h
    · cases h
      rename_i hc
      obtain ⟨a, h1, rfl⟩ := r
      obtain ⟨vs, h2, _⟩ := rep.cell _ _ a hc h1
      exact .base (.lst h2)
    · cases h
      rename_i hc
      obtain ⟨a, h1, rfl⟩ := r
      obtain ⟨vs, h2, _⟩ := rep.cell _ _ a hc h1
      exact .base (.dK h2)
    · cases h
  · cases h
def vIsi (b : String) (d : D) (S : Sto) : R D := match (tyN d S).bind fun a => kitB a b with
  | some r => .ok (.bl r) S
  | none => .stuck
section
variable {X : Cx} {W : WS} {e o : Expr} {es : List Expr} {f fo : E} {fs : As} {p pos p2 apos sp : Pos}
theorem fe_isi {b : String} {nb : Str} (hm : X.mg "isinstance" = none) (hmb : X.mg nb = none) (hvb : bootBuiltins nb = some (.type b)) (he : FE X W e f) (hg : Gl X "isinstance" := by rfl) (hgb : Gl X nb := by rfl)
    (hn : nb ≠ "__name__" := by decide) (hd : (nb == ("__debug__" : Str)) = false := by decide)
    (h1 : starEach [e, .Name nb p2] X.env = (false, eval e X.env) :: starEach [.Name nb p2] X.env := by rfl) (h2 : starEach [.Name nb p2] X.env = (false, eval (.Name nb p2) X.env) :: starEach [] X.env := by rfl)
    (hpl : (backTo pos (starEach [.Name nb p2] X.env)).any (·.1) = false := by rfl) : FE X W (.Call (.Name "isinstance" p) [e, .Name nb p2] [] pos) (e1 (vIsi b) f) := by
  refine ⟨PE.weak (pe_callB call_isi hg hm PyProof.Rows.boot_isinstance (pa_cons he.pe (pa_cons (pe_bltn (v := .ty b) hgb hmb hvb rfl hn hd) pa_nil h2) h1) (by decide) (by decide) h1 hpl) fun σ H Q h => ?_⟩
  obtain ⟨ι, env, S, rep, er, q⟩ := h
  refine ⟨ι, env, S, rep, er, Post.imp (Post.bind q) fun v H1 q => ?_⟩
  obtain ⟨d, S1, ι1, e1, rep1, rv, q⟩ := q
  unfold vIsi at q
  split at q
  · rename_i r hr
    obtain ⟨a, ha, hk⟩ := Option.bind_eq_some_iff.mp hr
    exact ⟨v, .ty b, .type a, .type b, r, rfl, .ty b, tyN_ok rep1 rv ha, kit_ty hk, q _ H1 ι1 (Ext.refl _ _) rep1 rfl⟩
  · exact q.elim

/-! ### methods of built-in types -/
def eM (T : String) (g : D → List D → Sto → R D) (a : E) (fs : As) : E := fun env S => (a env S).bind fun o S1 => if tyN o S1 = some T then (fs env S1).bind fun xs S2 => g o xs S2 else .stuck
/-- a method told by its reading -/
def VM (G : Gm) (g : D → List D → Sto → R D) (r : V → List V → Hp → VK → Prop) : Prop := ∀ (W : WP) (ι : List Addr) (H : Hp) (S : Sto) (o : D) (ds : List D) (v : V) (vs : List V) (Q : VK), Rep G ι H S → RV G ι H o v → RVs G ι H ds vs → Post G (RV G) W ι H (g o ds S) Q → r v vs H Q
theorem tyV_of {G : Gm} {ι : List Addr} {H : Hp} {S : Sto} {d : D} {v : V} {T : String} (rep : Rep G ι H S) (r : RV G ι H d v) (h : tyN d S = some T) (ht : T = "str" ∨ T = "list" ∨ T = "dict") : tyV G.K T v H := by
  unfold tyN at h
  split at h
  · cases h; rcases ht with z | z | z <;> exact absurd z (by decide)
  · cases h; rcases ht with z | z | z <;> exact absurd z (by decide)
  · cases h; rcases ht with z | z | z <;> exact absurd z (by decide)
  · cases h; have e : v = .str _ := r; subst e; exact rfl
  · cases h; rcases ht with z | z | z <;> exact absurd z (by decide)
  · cases h
    obtain ⟨a, vs, rfl, h1, h2⟩ := r
    exact .inl ⟨rfl, vs, h1.sql⟩
  · split at h
    · cases h
      rename_i hc
      obtain ⟨a, h1, rfl⟩ := r
      obtain ⟨vs, h2, _⟩ := rep.cell _ _ a hc h1
      exact .inl ⟨rfl, vs, .of h2⟩
    · cases h
      rename_i hc
      obtain ⟨a, h1, rfl⟩ := r
      obtain ⟨vs, h2, _⟩ := rep.cell _ _ a hc h1
      exact .inr (.inr (.inl ⟨rfl, .inl ⟨vs, h2⟩⟩))
    · cases h
  · cases h
theorem fe_bm {T id : String} {name : Str} {r : V → List V → Hp → VK → Prop} {g : D → List D → Sto → R D} (pa : PlainAttrs T) (slot : Slot T name id) (hty : typeOf (.builtin id) = pure (.type "method_descriptor")) (hm : MtR X id r) (hf : VM (gm X) g r) (ht : T = "str" ∨ T = "list" ∨ T = "dict")
    (ho : FE X W o fo) (ha : FA X W (e :: es) fs) (hbase : attributeBase o name X.env (eval o X.env) = eval o X.env := by rfl)
    (hfew : ((backTo pos (starEach (e :: es) X.env)).all (fun x => !x.1) && (backToKw pos (keywordEach [] X.env)).all (fun x => x.1.isSome)
      && decide ((e :: es).length + ([] : List Keyword).length + (if ([] : List Keyword).isEmpty then 0 else 1) < 30)) = true := by rfl)
    (hline : (apos.endLine == pos.line) = true := by rfl) (hs : starEach (e :: es) X.env = (false, eval e X.env) :: starEach es X.env := by rfl) (hplain : (backTo pos (starEach es X.env)).any (·.1) = false := by rfl) :
    FE X W (.Call (.Attribute o name apos) (e :: es) [] pos) (eM T g fo fs) := by
  refine ⟨PE.weak (pe_bm pa slot hty hm ho.pe ha.pa hbase hfew hline hs hplain) fun σ H Q h => ?_⟩
  obtain ⟨ι, env, S, rep, er, q⟩ := h
  refine ⟨ι, env, S, rep, er, Post.imp (Post.bind q) fun v H1 q => ?_⟩
  obtain ⟨d, S1, ι1, e1, rep1, rv, q⟩ := q
  split at q
  · rename_i hT
    refine ⟨tyV_of rep1 rv hT ht, ι1, env, S1, rep1, er.ext e1, Post.imp (Post.bind q) fun vs H2 q2 => ?_⟩
    obtain ⟨ds, S2, ι2, e2, rep2, rvs, q2⟩ := q2
    exact hf _ ι2 H2 S2 d ds v vs Q rep2 (RV.ext e2 _ _ rv) rvs q2
  · exact q.elim
theorem fe_bm0 {T id : String} {name : Str} {r : V → List V → Hp → VK → Prop} {g : D → List D → Sto → R D} (pa : PlainAttrs T) (slot : Slot T name id) (hty : typeOf (.builtin id) = pure (.type "method_descriptor")) (hm : MtR X id r) (hf : VM (gm X) g r) (ht : T = "str" ∨ T = "list" ∨ T = "dict")
    (ho : FE X W o fo) (hbase : attributeBase o name X.env (eval o X.env) = eval o X.env := by rfl) (hline : (apos.endLine == pos.line) = true := by rfl) :
    FE X W (.Call (.Attribute o name apos) [] [] pos) (eM T g fo aNil) := by
  refine ⟨PE.weak (pe_bm0 pa slot hty hm ho.pe hbase hline) fun σ H Q h => ?_⟩
  obtain ⟨ι, env, S, rep, er, q⟩ := h
  refine ⟨ι, env, S, rep, er, Post.imp (Post.bind q) fun v H1 q => ?_⟩
  obtain ⟨d, S1, ι1, e1, rep1, rv, q⟩ := q
  split at q
  · rename_i hT
    exact ⟨tyV_of rep1 rv hT ht, hf _ ι1 H1 S1 d [] v [] Q rep1 rv rfl q⟩
  · exact q.elim
def vApp (o : D) (xs : List D) (S : Sto) : R D := match o, xs with
  | .ref n, [y] => match S[n]? with
    | some (.lst ds) => if ds.length < LINE then .ok .non (S.set n (.lst (ds ++ [y]))) else .stuck
    | _ => .stuck
  | _, _ => .stuck
theorem v_app {G : Gm} : VM G vApp rAppend := by
  intro W ι H S o ds v vs Q rep r rvs p
  unfold vApp at p
  split at p
  · split at p
    · rename_i es hes
      split at p
      · rename_i hl
        obtain ⟨a, h1, rfl⟩ := r
        obtain ⟨u, rfl, h2⟩ := args1 rvs
        obtain ⟨us, h3, h4⟩ := rep.cell _ _ a hes h1
        refine ⟨a, us, u, rfl, rfl, h3, by rw [← h4.length, ← line_eq]; exact hl, p .non _ ι (ext_set rep h1) (rep.set h1 ⟨us ++ [u], upd_same, ?_⟩) rfl⟩
        exact RVs.ext (ext_set rep h1) _ _ (RVs.append h4 (RVs.one h2))
      · exact p.elim
    · exact p.elim
  · exact p.elim
theorem fe_append {y : Expr} (ho : FE X W o fo) (ha : FA X W [y] fs) (hbase : attributeBase o "append" X.env (eval o X.env) = eval o X.env := by rfl)
    (hfew : ((backTo pos (starEach [y] X.env)).all (fun x => !x.1) && (backToKw pos (keywordEach [] X.env)).all (fun x => x.1.isSome)
      && decide ([y].length + ([] : List Keyword).length + (if ([] : List Keyword).isEmpty then 0 else 1) < 30)) = true := by rfl)
    (hline : (apos.endLine == pos.line) = true := by rfl) (hs : starEach [y] X.env = (false, eval y X.env) :: starEach [] X.env := by rfl) (hplain : (backTo pos (starEach [] X.env)).any (·.1) = false := by rfl) : FE X W (.Call (.Attribute o "append" apos) [y] [] pos) (eM "list" vApp fo fs) :=
  fe_bm PySem.F.plainAttrs_list PySem.F.slot_list_append PySem.F.type_list_append mt_append v_app (.inr (.inl rfl)) ho ha hbase hfew hline hs hplain
def vJoin (o : D) (xs : List D) (S : Sto) : R D := match o, xs with
  | .str a, [d] => match (lstOf d S).bind strsOf with
    | some ys => if (ys.map (·.length)).sum + ys.length * a.length ≤ LINE then .ok (.str (TL.joinL a ys)) S else .stuck
    | none => .stuck
  | _, _ => .stuck
def rJoin (K : PySem.W.Frag) : V → List V → Hp → VK → Prop := fun x xs H Q => ∃ a p, ∃ ys : List Str, x = .str a ∧ xs = [.ref p] ∧ (SqL K H p (ys.map V.str) ∨ SqT K H p (ys.map V.str)) ∧
    (ys.map (·.length)).sum + ys.length * a.length ≤ 16777216 ∧ Q (.str (Txt.join a ys)) H
theorem v_join {G : Gm} : VM G vJoin (rJoin G.K) := by
  intro W ι H S o ds v vs Q rep r rvs p
  unfold vJoin at p
  split at p
  · split at p
    · rename_i ys hys
      split at p
      · rename_i hl
        obtain ⟨u, rfl, h2⟩ := args1 rvs
        obtain ⟨es, h3, h4⟩ := Option.bind_eq_some_iff.mp hys
        obtain ⟨b, us, rfl, h5, h6⟩ := lst_of rep h2 h3
        have e := strs_vs h6 h4
        subst e
        refine ⟨_, b, ys.map fun x => (⟨x.toArray⟩ : Str), r, rfl, .inl h5, ?_, p _ H ι (Ext.refl _ _) rep ?_⟩
        · have e1 : ((ys.map fun x => (⟨x.toArray⟩ : Str)).map (·.length)) = ys.map (·.length) := by
            rw [List.map_map]
            exact List.map_congr_left fun x _ => by show x.toArray.size = x.length; simp
          rw [e1, List.length_map]
          refine Nat.le_trans (Nat.le_of_eq ?_) hl
          show _ + _ * Array.size _ = _
          simp
        · show V.str _ = V.str _
          congr 1
          apply TL.ext_tl
          rw [TL.join_eq, TL.tl_join]
          simp only [TL.tl, List.map_map]
          congr 1
          exact (List.map_id' ys).symm ▸ (List.map_congr_left fun x _ => by simp)
      · exact p.elim
    · exact p.elim
  · exact p.elim
theorem fe_join {y : Expr} (ho : FE X W o fo) (ha : FA X W [y] fs) (hbase : attributeBase o "join" X.env (eval o X.env) = eval o X.env := by rfl)
    (hfew : ((backTo pos (starEach [y] X.env)).all (fun x => !x.1) && (backToKw pos (keywordEach [] X.env)).all (fun x => x.1.isSome)
      && decide ([y].length + ([] : List Keyword).length + (if ([] : List Keyword).isEmpty then 0 else 1) < 30)) = true := by rfl)
    (hline : (apos.endLine == pos.line) = true := by rfl) (hs : starEach [y] X.env = (false, eval y X.env) :: starEach [] X.env := by rfl) (hplain : (backTo pos (starEach [] X.env)).any (·.1) = false := by rfl) : FE X W (.Call (.Attribute o "join" apos) [y] [] pos) (eM "str" vJoin fo fs) :=
  fe_bm PySem.F.plainAttrs_str PySem.F.slot_str_join PySem.F.type_str_join mt_join v_join (.inl rfl) ho ha hbase hfew hline hs hplain

/-! ### stars -/
def aStar (a : E) (r : As) : As := fun env S => (a env S).bind fun d S1 => match d with
  | .tup ds => (r env S1).bind fun xs S2 => .ok (ds ++ xs) S2
  | .frl ds => (r env S1).bind fun xs S2 => .ok (ds ++ xs) S2
  | .ref n => match S1[n]? with
    | some (.lst ds) => (r env S1).bind fun xs S2 => if noRef.noRefs S1.length ds = true then .ok (ds ++ xs) S2 else .stuck
    | _ => .stuck
  | _ => .stuck
theorem star_post {G : Gm} {Wp : WP} {ι ι1 : List Addr} {H H1 : Hp} {ds xs : List D} {vs us : List V} {S : Sto} {Q : List V → Hp → Prop} (e1 : Ext ι H ι1 H1) (rep : Rep G ι1 H1 S) (h : RVs G ι H ds vs) (h2 : RVs G ι1 H1 xs us) (q : Post G (RVs G) Wp ι1 H1 (.ok (ds ++ xs) S) Q) : Q (vs ++ us) H1 :=
  q _ H1 ι1 (Ext.refl _ _) rep (RVs.append (RVs.ext e1 _ _ h) h2)
theorem fa_star (he : FE X W e f) (hr : FA X W es fs) (hs : starEach (.Starred e sp :: es) X.env = (true, eval e X.env) :: starEach es X.env := by rfl) : FA X W (.Starred e sp :: es) (aStar f fs) := by
  refine ⟨PA.weak (StX.pa_star he.pe hr.pa hs) fun σ H Q h => ?_⟩
  obtain ⟨ι, env, S, rep, er, q⟩ := h
  refine ⟨ι, env, S, rep, er, Post.imp (Post.bind q) fun v H1 q => ?_⟩
  obtain ⟨d, S1, ι1, e1, rep1, rv, q⟩ := q
  split at q
  · obtain ⟨a, vs, rfl, h1, h2⟩ := rv
    refine ⟨a, vs, rfl, .inl h1, ι1, env, S1, rep1, er.ext e1, Post.imp (Post.bind q) fun us H2 q2 => ?_⟩
    obtain ⟨xs, S2, ι2, e2, rep2, rvs, q2⟩ := q2
    exact star_post e2 rep2 h2 rvs q2
  · obtain ⟨a, vs, rfl, h1, h2⟩ := rv
    refine ⟨a, vs, rfl, .inr h1.sql, ι1, env, S1, rep1, er.ext e1, Post.imp (Post.bind q) fun us H2 q2 => ?_⟩
    obtain ⟨xs, S2, ι2, e2, rep2, rvs, q2⟩ := q2
    exact star_post e2 rep2 h2 rvs q2
  · split at q
    · rename_i ds hds
      obtain ⟨a, h1, rfl⟩ := rv
      obtain ⟨vs, h2, h3⟩ := rep1.cell _ _ a hds h1
      refine ⟨a, vs, rfl, .inr (.of h2), ι1, env, S1, rep1, er.ext e1, Post.imp (Post.bind q) fun us H2 q2 => ?_⟩
      obtain ⟨xs, S2, ι2, e2, rep2, rvs, q2⟩ := q2
      split at q2
      · exact star_post e2 rep2 h3 rvs q2
      · exact q2.elim
    · exact q.elim
  · exact q.elim
end
end Fz

/-! Fz9: in, x[::-1], the law's own head. -/
namespace Fz
open PySem PySem.Spec PyProof.Rows L2

/-! ### in -/
def flatD : D → Bool
  | .non => true
  | .bl _ => true
  | .int _ => true
  | .str _ => true
  | _ => false
def eqF : D → D → Bool
  | .non, .non => true
  | .bl a, .bl b => a == b
  | .bl a, .int b => (if a then 1 else 0) == b
  | .int a, .bl b => a == (if b then 1 else 0)
  | .int a, .int b => a == b
  | .str a, .str b => a == b
  | _, _ => false
def itemsOf (d : D) (S : Sto) : Option (List D) := match d with
  | .tup ds => some ds
  | d => lstOf d S
def inG (f : Bool → Bool) (d e : D) (S : Sto) : R D := match d, e with
  | .str [c], .str z => .ok (.bl (f (decide (c ∈ z)))) S
  | d, e => match itemsOf e S with
    | some es => if flatD d = true ∧ es.all flatD = true then .ok (.bl (f (es.any fun y => eqF y d))) S else .stuck
    | none => .stuck
def vIn (d e : D) (S : Sto) : R D := inG id d e S
def vNotIn (d e : D) (S : Sto) : R D := inG not d e S
section
variable {X : Cx} {G : Gm} {ι : List Addr} {H : Hp} {S : Sto}
def flv : D → V
  | .non => .non
  | .bl b => .bl b
  | .int i => .int i
  | .str x => .str ⟨x.toArray⟩
  | _ => .non
theorem flv_of {d : D} {v : V} (r : RV G ι H d v) (h : flatD d = true) : v = flv d ∧ flatV v = true := by
  cases d with
  | non => have e : v = .non := r; subst e; exact ⟨rfl, rfl⟩
  | bl b => have e : v = .bl b := r; subst e; exact ⟨rfl, rfl⟩
  | int b => have e : v = .int b := r; subst e; exact ⟨rfl, rfl⟩
  | str b => have e : v = .str _ := r; subst e; exact ⟨rfl, rfl⟩
  | _ => cases h
theorem eqF_of : ∀ {d e : D}, flatD d = true → flatD e = true → eqV (flv d) (flv e) = eqF d e := fun {d e} h1 h2 => by
  cases d <;> cases e <;> first | rfl | (cases h1; done) | (cases h2; done) | skip
  rename_i x y
  show ((⟨x.toArray⟩ : Str) == ⟨y.toArray⟩) = (x == y)
  rw [Bool.eq_iff_iff]
  simp
theorem flat_all : ∀ {ds : List D} {vs : List V}, RVs G ι H ds vs → ds.all flatD = true → vs = ds.map flv ∧ vs.all flatV = true
  | [], vs, h, _ => by have e : vs = [] := h; subst e; exact ⟨rfl, rfl⟩
  | d :: ds, vs, h, f => by
    obtain ⟨v, vr, rfl, h1, h2⟩ := h
    rw [List.all_cons, Bool.and_eq_true] at f
    obtain ⟨e1, e2⟩ := flv_of h1 f.1
    obtain ⟨e3, e4⟩ := flat_all h2 f.2
    subst e1 e3
    exact ⟨rfl, by rw [List.all_cons, e2, e4]; rfl⟩
theorem any_flat {d : D} (hd : flatD d = true) : ∀ {ds : List D}, ds.all flatD = true → (ds.map flv).any (fun y => eqV y (flv d)) = ds.any fun y => eqF y d
  | [], _ => rfl
  | y :: ds, f => by
    rw [List.all_cons, Bool.and_eq_true] at f
    rw [List.map_cons, List.any_cons, List.any_cons, eqF_of f.1 hd, any_flat hd f.2]
theorem items_of {d : D} {v : V} {ds : List D} (rep : Rep G ι H S) (r : RV G ι H d v) (h : itemsOf d S = some ds) : ∃ a vs, v = .ref a ∧ (SqL G.K H a vs ∨ SqT G.K H a vs) ∧ RVs G ι H ds vs := by
  unfold itemsOf at h
  split at h
  · cases h
    obtain ⟨a, vs, rfl, h1, h2⟩ := r
    exact ⟨a, vs, rfl, .inr h1, h2⟩
  · obtain ⟨a, vs, h1, h2, h3⟩ := lst_of rep r h
    exact ⟨a, vs, h1, .inl h2, h3⟩
def rInA (K : PySem.W.Frag) : R2 := fun x y H Q => (∃ (c : Nat) (z : Str), x = .str ⟨#[c]⟩ ∧ y = .str z ∧ Q (.bl (decide (c ∈ z.cps.toList))) H) ∨ rIn K false x y H Q
def rNotInA (K : PySem.W.Frag) : R2 := fun x y H Q => (∃ (c : Nat) (z : Str), x = .str ⟨#[c]⟩ ∧ y = .str z ∧ Q (.bl (!decide (c ∈ z.cps.toList))) H) ∨ rIn K true x y H Q
theorem op_inA : OpR X (compareOp .In) (rInA X.K) := op_in_sign.or op_in_seq
theorem op_notInA : OpR X (compareOp .NotIn) (rNotInA X.K) := op_notIn_sign.or op_notIn_seq
theorem vb_in : VB G vIn (rInA G.K) := by
  intro ι H S d e v u rep r1 r2
  unfold vIn inG
  split
  · rename_i c z
    refine .inr ⟨_, rfl, fun Q q => .inl ⟨c, ⟨z.toArray⟩, r1, r2, ?_⟩⟩
    simpa using q
  · split
    · rename_i es hes
      split
      · rename_i hf
        obtain ⟨a, vs, rfl, h1, h2⟩ := items_of rep r2 hes
        obtain ⟨e1, e2⟩ := flv_of r1 hf.1
        obtain ⟨e3, e4⟩ := flat_all h2 hf.2
        refine .inr ⟨_, rfl, fun Q q => .inr ⟨a, vs, rfl, h1, e2, e4, ?_⟩⟩
        have e5 : inV v vs = es.any fun y => eqF y d := by
          rw [e1, e3]
          exact any_flat hf.1 hf.2
        rw [e5]
        exact q
      · exact .inl rfl
    · exact .inl rfl
theorem vb_notIn : VB G vNotIn (rNotInA G.K) := by
  intro ι H S d e v u rep r1 r2
  unfold vNotIn inG
  split
  · rename_i c z
    refine .inr ⟨_, rfl, fun Q q => .inl ⟨c, ⟨z.toArray⟩, r1, r2, ?_⟩⟩
    simpa using q
  · split
    · rename_i es hes
      split
      · rename_i hf
        obtain ⟨a, vs, rfl, h1, h2⟩ := items_of rep r2 hes
        obtain ⟨e1, e2⟩ := flv_of r1 hf.1
        obtain ⟨e3, e4⟩ := flat_all h2 hf.2
        refine .inr ⟨_, rfl, fun Q q => .inr ⟨a, vs, rfl, h1, e2, e4, ?_⟩⟩
        have e5 : inV v vs = es.any fun y => eqF y d := by
          rw [e1, e3]
          exact any_flat hf.1 hf.2
        rw [e5]
        exact q
      · exact .inl rfl
    · exact .inl rfl
end

/-! ### x[::-1] -/
def vRev (d : D) (S : Sto) : R D := match d with
  | .str x => if x.length ≤ LINE then .ok (.str x.reverse) S else .stuck
  | d => match lstOf d S with
    | some ds => .ok (.ref S.length) (S ++ [.lst ds.reverse])
    | none => .stuck
section
variable {X : Cx} {W : WS} {e : Expr} {te : TE} {f : E} {k : Nat} {p1 p2 p3 pos : Pos}
theorem PE.or {t t' : TE} (h : PE X e t) (h' : PE X e t') : PE X e (fun σ H Q => t σ H Q ∨ t' σ H Q) :=
  ⟨fun pins s σ H Q I q => by
    rcases q with q | q
    · exact h.run pins s σ H Q I q
    · exact h'.run pins s σ H Q I q⟩
def tRevS (te : TE) : TE := fun σ H Q => te σ H fun x H1 => ∃ z : Str, x = .str z ∧ z.length ≤ sizeLine ∧ Q (.str ⟨z.cps.toList.reverse.toArray⟩) H1
theorem pick_rev (z : Str) : ((Builtin.Str.strSliceIndices none none (-1) z.length).filterMap (z.cps[·]?)) = z.cps.toList.reverse := by
  show ((sliceRange ((z.cps.size : Int) - 1) (-1) (-1)).filterMap (z.cps[·]?)) = _
  rw [PySem.W.krv_sliceRange, PySem.W.krv_range, List.filterMap_reverse]
  congr 1
  have key : ∀ n, n ≤ z.cps.size → (List.range n).filterMap (z.cps[·]?) = z.cps.toList.take n := by
    intro n
    induction n with
    | zero => intro _; rfl
    | succ n ih =>
      intro hn
      rw [List.range_succ, List.filterMap_append, ih (by omega), List.take_add_one]
      congr 1
      simp [show n < z.cps.size by omega]
  rw [key _ (Nat.le_refl _)]
  exact List.take_of_length_le (by simp)
theorem pe_revS (he : PE X e te) : PE X (.Subscript e (.Slice none none (some (.UnaryOp .USub (.Constant (.int 1) k p1) p2)) p3) pos) (tRevS te) := by
  constructor
  intro pins s σ H Q I h
  apply Subscript_
  refine thn (he.run pins s σ H _ I h) fun v s1 hq => ?_
  obtain ⟨x, H1, I1, r1, z, ex, hz, q⟩ := hq
  subst ex
  obtain ⟨t, rfl⟩ := r1
  have step : PO X (some (.UnaryOp .USub (.Constant (.int 1) k p1) p2)) (tPart (tUn (rU fun i => .int (-i)) (tC (.int 1)))) := po_some (pe_un un_neg pe_int)
  apply wpAny_Slice
  refine thn (po_none.run pins s1 σ H1 (fun o H2 => o = none ∧ H2 = H1) I1 ⟨rfl, rfl⟩) fun vl s2 hq => ?_
  obtain ⟨l, H2, I2, pl, el, e2⟩ := hq
  subst el e2
  refine thn (po_none.run pins s2 σ H2 (fun o H3 => o = none ∧ H3 = H2) I2 ⟨rfl, rfl⟩) fun vu s3 hq => ?_
  obtain ⟨u, H3, I3, pu, eu, e3⟩ := hq
  subst eu e3
  refine thn (step.run pins s3 σ H3 (fun o H4 => o = some (-1) ∧ H4 = H3) I3 ⟨1, rfl, -1, rfl, rfl, rfl⟩) fun vs s4 hq => ?_
  obtain ⟨o, H4, I4, ps, eo, e4⟩ := hq
  subst eo e4
  have J : Inv X pins σ H4 { s4 with heap := s4.heap.push { cls := .type "slice", data := .fields #[vl, vu, vs] } } :=
    I4.kept (t' := s4.toks) fun b ob q => Heap.get?_push_of_some _ q
  obtain ⟨l0, rfl, el⟩ := IsPart.raw pl
  obtain ⟨u0, rfl, eu⟩ := IsPart.raw pu
  obtain ⟨k0, rfl, ek⟩ := IsPart.raw ps
  have hl0 : l0 = none := by cases l0 with
    | none => rfl
    | some x => cases el
  have hu0 : u0 = none := by cases u0 with
    | none => rfl
    | some x => cases eu
  obtain ⟨tk, rfl⟩ : ∃ tk, k0 = some (-1, tk) := by
    cases k0 with
    | none => cases ek
    | some x =>
      obtain ⟨a, b⟩ := x
      have : a = -1 := Option.some.inj ek
      subst this
      exact ⟨b, rfl⟩
  subst hl0 hu0
  refine tail_any (ops := [.str z t, .ref s4.heap.objs.size]) (typeIs_str _ _ _) F.slot_str_getitem.lookup ?_ (by with_unfolding_all rfl)
  refine wpAny_getItem_str_slice (l := none) (u := none) (st := some (-1, tk)) ⟨_, Heap.get?_push_size _ rfl, rfl, rfl⟩ rfl ?_
  show Made.post (if ((-1 : Int) == 1 && (Builtin.Str.strSliceIndices none none (-1) z.length).length == z.length) = true then Made.val (.str z t)
    else Made.str ⟨((Builtin.Str.strSliceIndices none none (-1) z.length).filterMap (z.cps[·]?)).toArray⟩) (EP X pins σ Q) _
  rw [if_neg (by simp), pick_rev]
  refine ⟨?_, .str _, H4, J.tok _, ⟨_, rfl⟩, q⟩
  show z.cps.toList.reverse.toArray.size ≤ sizeLine
  have hz' : z.cps.size ≤ sizeLine := hz
  simpa using hz'
theorem fe_rev (he : FE X W e f) : FE X W (.Subscript e (.Slice none none (some (.UnaryOp .USub (.Constant (.int 1) k p1) p2)) p3) pos) (e1 vRev f) := by
  refine ⟨PE.weak (Fz.PE.or (pe_revL he.pe) (pe_revS he.pe)) fun σ H Q h => ?_⟩
  obtain ⟨ι, env, S, rep, er, p⟩ := h
  have p0 : Post (gm X) (RV (gm X)) (fun c d H' => W c d σ H') ι H ((f env S).bind vRev) Q := p
  cases hf : f env S with
  | stuck => rw [hf] at p0; exact p0.elim
  | exc C fs S' => exact .inl ⟨ι, env, S, rep, er, by rw [hf] at p0 ⊢; exact p0⟩
  | ok d S' =>
    rw [hf] at p0
    by_cases hs : ∃ x, d = .str x
    · obtain ⟨x, rfl⟩ := hs
      refine .inr ⟨ι, env, S, rep, er, ?_⟩
      rw [hf]
      intro v H1 ι1 e1 r1 rv
      have p1 : Post (gm X) (RV (gm X)) (fun c d H' => W c d σ H') ι H (if x.length ≤ LINE then .ok (.str x.reverse) S' else .stuck) Q := p0
      split at p1
      · rename_i hl
        refine ⟨_, rv, by rw [← line_eq]; exact (show x.toArray.size ≤ LINE by simpa using hl), ?_⟩
        exact p1 _ H1 ι1 e1 r1 (by show V.str _ = V.str _; simp)
      · exact p1.elim
    · refine .inl ⟨ι, env, S, rep, er, ?_⟩
      rw [hf]
      intro v H1 ι1 e1 r1 rv
      have e0 : vRev d S' = (match lstOf d S' with
        | some ds => .ok (.ref S'.length) (S' ++ [.lst ds.reverse])
        | none => .stuck) := by
        unfold vRev
        split
        · exact absurd ⟨_, rfl⟩ hs
        · rfl
      have p1 : Post (gm X) (RV (gm X)) (fun c d H' => W c d σ H') ι H (vRev d S') Q := p0
      rw [e0] at p1
      split at p1
      · rename_i ds hds
        obtain ⟨a, vs, rfl, h1, h2⟩ := lst_of r1 rv hds
        refine ⟨a, vs, rfl, h1, fun q hq => post_lst r1 h2.reverse hq ?_⟩
        exact fun v H' ι' e r rv => p1 v H' ι' (e1.trans e) r rv
      · exact p1.elim
end

/-! ### the law's own head -/
section
variable {P : Program} {w : World} {K : PySem.W.Frag} {mg mb : Str → Option Value} {k : Nat} {fa a : Addr} {fd : FuncData} {x : Str} {s₁ : Shared} {vs : List Value} {ns : List Int} {F : Fn}
/-- from a def's contract to its promise, where nothing may be raised and the answer is True: only the script is there -/
theorem law_callG (KX : K.In s₁.heap) (hns : s₁.heap.Ns mainGlobals mg) (hb : s₁.heap.Ns builtinsNs mb) (hbb : ∀ x : Str, x ≠ "__name__" → mb x = bootBuiltins x) (hlim : s₁.heap.NoLimit) (hg : s₁.gens = #[])
    (ha : s₁.heap.get? a = some { cls := .type "list", data := .seq vs.toArray }) (hi : IntsAre vs ns) (hl : ns.length ≤ sizeLine) (hr : Room k callerA)
    (hF : ∀ base : Heap, K.In base → base.Ns mainGlobals mg → FnG P w K mg base k fa fd [x] F) (hbind : ∀ (s : Shared) (u : Value), BindsTo s fd ⟨[u], []⟩ [(x, u)])
    (hok : F [.frl (ns.map D.int)] [] = .ok (.bl true) []) :
    codeAny (model P w) callerA (.call (.ref fa) ⟨[.ref a], []⟩) (fun r s' => r = .ok (.ret (.bool true)) ∧ OldK s₁.heap s'.heap ∧ s'.os = s₁.os ∧ AllBare s'.gens) s₁ := by
  have rel := vals_ints hi
  have vlen := hi.length
  -- H: nothing, or the script alone
  have main : ∀ H : Hp, (∀ b, H b = none ∨ (b = a ∧ ∃ o, H b = some (.frz o (.lst (ns.map V.int))))) → SqF K H a (ns.map V.int) → HOk P w H s₁.heap → (H a ≠ none → K.lookup a = none) →
      codeAny (model P w) callerA (.call (.ref fa) ⟨[.ref a], []⟩) (fun r s' => r = .ok (.ret (.bool true)) ∧ OldK s₁.heap s'.heap ∧ s'.os = s₁.os ∧ AllBare s'.gens) s₁ := by
    intro H only sq hok' noK
    have only' : ∀ b, H b ≠ none → b = a := fun b z => by
      rcases only b with y | ⟨y, _⟩
      · exact absurd y z
      · exact y
    have low : ∀ {b : Addr} {o : Obj}, s₁.heap.get? b = some o → H b = none → (hidT s₁.heap H).get? b = some o := fun e n => hidT_get e n
    have dictFree : ∀ {b : Addr} {o : Obj} {es : Array DictEntry} {ep : Nat}, s₁.heap.get? b = some o → o.data = .dict es ep → H b = none := by
      intro b o es ep e d
      by_cases z : H b = none
      · exact z
      · have := only' b z
        subst this
        rw [ha] at e
        cases e
        exact Data.noConfusion d
    have nsLow : ∀ {b : Addr} {m : Str → Option Value}, s₁.heap.Ns b m → (hidT s₁.heap H).Ns b m := by
      rintro b m ⟨o, es, ep, e, d, r⟩
      exact ⟨o, es, ep, low e (dictFree e d), d, r⟩
    have kLow : K.In (hidT s₁.heap H) := by
      intro b o e
      refine low (KX b o e) ?_
      by_cases z : H b = none
      · exact z
      · have := only' b z
        subst this
        rw [noK z] at e
        cases e
    have md : Mod K mg (hidT s₁.heap H) := by
      obtain ⟨mc, h1, h2⟩ := hlim
      exact ⟨kLow, nsLow hns, ⟨mb, nsLow hb, hbb⟩, ⟨mc, nsLow h1, h2⟩⟩
    have env0 : Env0 P w K mg (hidT s₁.heap H) callerA [] s₁ H :=
      ⟨rfl, md, fun b o e => of_hidT e, Nat.le_of_eq (hidT_size _ _), trivial, (fun b hb => absurd (show b ∈ ([] : List Addr) from hb) (by simp)), hok', .of_eq hg⟩
    have rep : Rep ⟨K, mg⟩ [] H [] := ⟨rfl, fun i j a h => by simp at h, fun i c a h => by simp at h⟩
    have rv : RVs ⟨K, mg⟩ [] H [.frl (ns.map D.int)] [.ref a] := RVs.one ⟨a, ns.map V.int, rfl, sq, RVs.ints ns⟩
    have run := (hF _ kLow (nsLow hns)).run callerA [] s₁ H ⟨[.ref a], []⟩ [.ref a] [.ref a] (fun v _ => v = .bl true) (fun _ _ _ => False) [] [.frl (ns.map D.int)] [] rfl hr env0 (hbind s₁ (.ref a)) (.cons rfl .nil) rep rv rfl
      (by rw [hok]; exact fun v H' ι' _ _ rv => rv)
    refine codeAny_mono run fun r s' h => ?_
    cases r with
    | error e =>
      obtain ⟨_, _, _, _, _, _, _, _, _, _, _, _, z⟩ := h
      exact z.elim
    | ok fl =>
      cases fl with
      | ret u =>
        obtain ⟨v, H', os, bare, un, hok2, r', q⟩ := h
        have q' : v = .bl true := q
        subst q'
        obtain rfl : u = Value.bool true := r'
        refine ⟨rfl, OldK.of_keep ?_, os, bare⟩
        intro b o e
        rcases only b with z | ⟨_, ob, z⟩
        · exact un.keep b o e z (by intro y; cases y) (by simp)
        · have z2 := un.frzs b ob _ z
          have e1 := (hok' b _ z).1
          have e2 := (hok2 b _ z2).1
          rw [e] at e1
          cases e1
          exact e2
      | next => exact False.elim h
      | brk => exact False.elim h
      | cont => exact False.elim h
  cases hk : K.lookup a with
  | some o =>
    have e := KX a o hk
    rw [ha] at e
    cases e
    refine main (fun _ => none) (fun _ => .inl rfl) (.inr ⟨_, vs.toArray, _, hk, rfl, rfl, rfl, ?_, ?_⟩) (fun b u z => by cases z) fun z => absurd rfl z
    · rw [List.size_toArray, vlen]
      exact hl
    · simpa using rel
  | none =>
    refine main (fun b => if b = a then some (.frz { cls := .type "list", data := .seq vs.toArray } (.lst (ns.map V.int))) else none) (fun b => ?_) (.inl ⟨_, if_pos rfl⟩) (fun b u z => ?_) fun _ => hk
    · by_cases hb : b = a
      · exact .inr ⟨hb, _, if_pos hb⟩
      · exact .inl (if_neg hb)
    · by_cases hb : b = a
      · subst hb
        have z' := (if_pos rfl).symm.trans z
        cases z'
        exact ⟨ha, by rw [List.length_map]; exact hl, vs, _, rel, ha⟩
      · have z' := (if_neg hb).symm.trans z
        cases z'
/-- the goal that k_head leaves -/
theorem walk_G {l : PySem.W.OpenLaw} {n k : Nat} {q : Program} {loose : List Str} {XP : (Str → Option Value) → Heap → Prop} {YP : World → Heap → Prop} {d : DefRec} {K : Params → PySem.W.Frag} {x : Str} {F : Fn}
    (hn : l.most = some n) (hn2 : n ≤ sizeLine) (hdf : d.params.defaults = []) (hr : Room k callerA)
    (hY : ∀ (w : World) (h : Heap), YP w h → (K w.params).In h)
    (hF : ∀ (w : World) (mg : Str → Option Value) (fa : Addr) (h : Heap), (K w.params).In h → h.Ns mainGlobals mg → mg d.name = some (.ref fa) →
      ∃ fd : FuncData, (∀ (s : Shared) (u : Value), BindsTo s fd ⟨[u], []⟩ [(x, u)]) ∧
        ∀ base : Heap, (K w.params).In base → base.Ns mainGlobals mg → FnG l.prog w (K w.params) mg base k fa fd [x] F)
    (hok : ∀ ns : List Int, ns.length ≤ n → F [.frl (ns.map D.int)] [] = .ok (.bl true) []) :
    PySem.W.WalkO q loose XP YP l.row.toRowW d [] (fun f vs => PySem.call f vs) := by
  apply Att.attach_call hn hdf
  intro w s₀ s₁ mg mb fa o pm cd doc a vs ns G Y ho hd hcd hmg hobj hints hlen hg
  obtain ⟨fd, hb, hF'⟩ := hF w mg fa _ (hY w _ Y) G.T.g hmg
  exact law_callG (hY w _ Y) G.T.g G.T.b G.T.builtins G.T.nolimit hg hobj hints (Nat.le_trans hlen hn2) hr hF' hb (hok ns hlen)
end
end Fz

/-! Fz10: a def of the module by its name, and calls of it. -/
namespace Fz
open PySem PySem.Spec PyProof.Rows L2

/-- a def as it stands; dV its defaults -/
structure FunA (K : PySem.W.Frag) (nm : Str) (st : Stmt) (dV : Value) (f : Addr) (fd : FuncData) : Prop where
  ex : ∃ (oc : Value) (od : Option Addr) (kV doc pm : Value) (an : Option Addr) (cdv ct : Value) (osl : Array (Option Value)),
    fd = PySem.W.fnOf nm nm (defArgs st) (defBody st) (defScope st) dV kV doc pm an cdv ct ∧ K.lookup f = some ⟨oc, od, .func fd, osl⟩ ∧ PySem.W.codeIn K cdv nm = true
  kp : PySem.W.keepIn K (.ref f) = true
/-- its defaults' values -/
def DfD (K : PySem.W.Frag) (mg : Str → Option Value) (dV : Value) (dds : List D) : Prop := (dds = [] ∧ dV = .none) ∨ dds ≠ [] ∧
  ∃ (T : Addr) (o : Obj) (its : List Value) (n : Nat) (dvs : List V), dV = .ref T ∧ K.lookup T = some o ∧ o.data = .seq its.toArray n ∧ Vals dvs its ∧ ∀ ι H, RVs ⟨K, mg⟩ ι H dds dvs
/-- the name x holds the def nm of the text -/
structure Has (P : Program) (w : World) (K : PySem.W.Frag) (mg : Str → Option Value) (base : Heap) (k : Nat) (x nm : Str) (st : Stmt) (dds : List D) (ps : List Str) (F : Fn) : Prop where
  ex : ∃ f fd dV, FunA K nm st dV f fd ∧ DfD K mg dV dds ∧ mg x = some (.ref f) ∧ FnG P w K mg base k f fd ps F
/-- where the def stands -/
def At (K : PySem.W.Frag) (mg : Str → Option Value) (x nm : Str) (st : Stmt) (dds : List D) : Prop := ∃ f fd dV, FunA K nm st dV f fd ∧ DfD K mg dV dds ∧ mg x = some (.ref f)
abbrev docD (nm : Str) (st : Stmt) (dV kV doc pm : Value) (an : Option Addr) (cdv ct : Value) : FuncData := PySem.W.fnOf nm nm (defArgs st) (defBody st) (defScope st) dV kV doc pm an cdv ct
section
variable {P : Program} {w : World} {K : PySem.W.Frag} {mg : Str → Option Value} {base : Heap}
theorem has_of {k : Nat} {x nm : Str} {st : Stmt} {dds : List D} {N ps : List Str} {fb : Sm} (a : At K mg x nm st dds) (Sc : FnScope N ps (defScope st))
    (hbody : ∀ (f : Addr) (cdv : Value) (A : Around) (outer : List Env) (s : Shared) (H : Hp) (E : XK), A.guards = some [] → Room k (A.deeper (envOfC nm (defScope st) s.heap.objs.size f cdv)) →
      FSs (cxOf (L2.CX P w) P w K mg base N nm (defScope st) f cdv A outer s H E) (fun c d _ H' => E c d H') (defBody st) fb) : Has P w K mg base (k + 1) x nm st dds ps (defF ps.length N.length fb) := by
  obtain ⟨f, fd, dV, F, dd, hm⟩ := a
  refine ⟨f, fd, dV, F, dd, hm, ?_⟩
  obtain ⟨oc, od, kV, doc, pm, an, cdv, ct, osl, rfl, lk, hcd⟩ := F.ex
  exact fng_of lk hcd Sc fun A outer s H E gd hr => hbody f cdv A outer s H E gd hr
theorem at_of {x nm : Str} {st : Stmt} {f : Addr} {oc : Value} {od an : Option Addr} {osl : Array (Option Value)} {kV doc pm cdv ct : Value} {h : Heap} (X : K.In h) (G : h.Ns mainGlobals mg) (a : PySem.W.nsIn K mainGlobals x = some (some (.ref f)))
    (l : K.lookup f = some ⟨oc, od, .func (PySem.W.fnOf nm nm (defArgs st) (defBody st) (defScope st) .none kV doc pm an cdv ct), osl⟩)
    (c : PySem.W.codeIn K cdv nm = true) (k : PySem.W.keepIn K (.ref f) = true) : At K mg x nm st [] := ⟨f, _, .none, ⟨⟨oc, od, kV, doc, pm, an, cdv, ct, osl, rfl, l, c⟩, k⟩, .inl ⟨rfl, rfl⟩, PySem.W.mg_of X G a⟩
end
section
variable {X : Cx} {W : WS} {j n : Nat} {st : Stmt} {ps ks : List Str} {F : Fn} {x nm : Str} {p pos : Pos} {e : Expr} {es : List Expr} {fs fk : As} {pm : List Nat} {dds : List D}
theorem bindK_of {K : PySem.W.Frag} {f : Addr} {fd : FuncData} (hF : FunA K nm st .none f fd) (hb : ∀ (kV doc pV : Value) (an : Option Addr) (cdv ct : Value) (us ws : List Value), us.length = n → ws.length = ks.length → bindArgs (docD nm st .none kV doc pV an cdv ct) ⟨us, ks.zip ws⟩ = pure (ps.zip (permL pm (us ++ ws)))) : BindK K fd ps n ks pm [] := by
  obtain ⟨oc, od, kV, doc, pV, an, cdv, ct, osl, rfl, lk, hcd⟩ := hF.ex
  intro s us ws _ h1 h2
  rw [List.append_nil]
  exact .of_eq (hb kV doc pV an cdv ct us ws h1 h2)
/-- where defaults are taken -/
theorem bindD_of {K : PySem.W.Frag} {f : Addr} {fd : FuncData} {T : Addr} {o : Obj} {its : List Value} {m : Nat} (hF : FunA K nm st (.ref T) f fd) (lT : K.lookup T = some o) (oT : o.data = .seq its.toArray m)
    (hb : ∀ (T : Addr) (kV doc pV : Value) (an : Option Addr) (cdv ct : Value) (us ws : List Value), us.length = n → ws.length = ks.length → ∃ k, bindArgs (docD nm st (.ref T) kV doc pV an cdv ct) ⟨us, ks.zip ws⟩ = seqItems? (.ref T) >>= k ∧ k (some its.toArray) = pure (ps.zip (permL pm (us ++ ws ++ its)))) : BindK K fd ps n ks pm its := by
  obtain ⟨oc, od, kV, doc, pV, an, cdv, ct, osl, rfl, lk, hcd⟩ := hF.ex
  intro s us ws hK h1 h2
  obtain ⟨k, e1, e2⟩ := hb T kV doc pV an cdv ct us ws h1 h2
  refine BindsTo.of_looks fun M => ?_
  rw [e1]
  exact looks_items hK lT oT (.of_pure e2)
theorem fe_fn (h : Has X.prog X.w X.K X.mg X.base j x nm st [] ps F) (gd : X.A.guards = some []) (hr : Room j X.A) (tk : Takes X W)
    (hb : ∀ (kV doc pV : Value) (an : Option Addr) (cdv ct : Value) (us ws : List Value), us.length = n → ws.length = ([] : List Str).length → bindArgs (docD nm st .none kV doc pV an cdv ct) ⟨us, ([] : List Str).zip ws⟩ = pure (ps.zip (permL pm (us ++ ws))))
    (ha : FA X W (e :: es) fs) (hg : Gl X x := by rfl) (hdb : (x == ("__debug__" : Str)) = false := by decide) (he : starEach (e :: es) X.env = (false, eval e X.env) :: starEach es X.env := by rfl) (hpl : (backTo pos (starEach es X.env)).any (·.1) = false := by rfl) :
    FE X W (.Call (.Name x p) (e :: es) [] pos) (eN (cF n 0 pm [] ps.length F) fs) := by
  obtain ⟨f, fd, dV, hF, hd, hm, hG⟩ := h.ex
  obtain ⟨_, rfl⟩ := hd.resolve_right fun z => z.1 rfl
  exact fe_call hG gd hr tk hm hF.kp (bindK_of hF hb) .nil (fun _ _ => rfl) ha hg hdb he hpl
/-- some parameters by their defaults -/
theorem fe_fnD (h : Has X.prog X.w X.K X.mg X.base j x nm st dds ps F) (gd : X.A.guards = some []) (hr : Room j X.A) (tk : Takes X W) (hne : dds ≠ [])
    (hb : ∀ (its : List Value), its.length = dds.length → ∀ (T : Addr) (kV doc pV : Value) (an : Option Addr) (cdv ct : Value) (us ws : List Value), us.length = n → ws.length = ([] : List Str).length → ∃ k, bindArgs (docD nm st (.ref T) kV doc pV an cdv ct) ⟨us, ([] : List Str).zip ws⟩ = seqItems? (.ref T) >>= k ∧ k (some its.toArray) = pure (ps.zip (permL pm (us ++ ws ++ its))))
    (ha : FA X W (e :: es) fs) (hg : Gl X x := by rfl) (hdb : (x == ("__debug__" : Str)) = false := by decide) (he : starEach (e :: es) X.env = (false, eval e X.env) :: starEach es X.env := by rfl) (hpl : (backTo pos (starEach es X.env)).any (·.1) = false := by rfl) :
    FE X W (.Call (.Name x p) (e :: es) [] pos) (eN (cF n 0 pm dds ps.length F) fs) := by
  obtain ⟨f, fd, dV, hF, hd, hm, hG⟩ := h.ex
  rcases hd with ⟨e1, _⟩ | ⟨_, T, o, its, m, dvs, rfl, lT, oT, rT, hr2⟩
  · exact absurd e1 hne
  · have hl : its.length = dds.length := by rw [← rT.length]; exact ((hr2 [] (fun _ => none)).length).symm
    exact fe_call hG gd hr tk hm hF.kp (bindD_of hF lT oT (hb its hl)) rT hr2 ha hg hdb he hpl
theorem fe_fn0 (h : Has X.prog X.w X.K X.mg X.base j x nm st [] ps F) (gd : X.A.guards = some []) (hr : Room j X.A) (tk : Takes X W)
    (hb : ∀ (kV doc pV : Value) (an : Option Addr) (cdv ct : Value) (us ws : List Value), us.length = 0 → ws.length = ([] : List Str).length → bindArgs (docD nm st .none kV doc pV an cdv ct) ⟨us, ([] : List Str).zip ws⟩ = pure (ps.zip (permL pm (us ++ ws))))
    (hg : Gl X x := by rfl) (hdb : (x == ("__debug__" : Str)) = false := by decide) : FE X W (.Call (.Name x p) [] [] pos) (eN (cF 0 0 pm [] ps.length F) aNil) := by
  obtain ⟨f, fd, dV, hF, hd, hm, hG⟩ := h.ex
  obtain ⟨_, rfl⟩ := hd.resolve_right fun z => z.1 rfl
  exact fe_call0 hG gd hr tk hm hF.kp (bindK_of hF hb) .nil (fun _ _ => rfl) hg hdb
theorem fe_fnK {kws : List Keyword} (h : Has X.prog X.w X.K X.mg X.base j x nm st [] ps F) (gd : X.A.guards = some []) (hr : Room j X.A) (tk : Takes X W)
    (hb : ∀ (kV doc pV : Value) (an : Option Addr) (cdv ct : Value) (us ws : List Value), us.length = n → ws.length = ks.length → bindArgs (docD nm st .none kV doc pV an cdv ct) ⟨us, ks.zip ws⟩ = pure (ps.zip (permL pm (us ++ ws))))
    (ha : FA X W (e :: es) fs) (hkw : FK X W kws fk) (hall : (backToKw pos (keywordEach kws X.env)).all (·.1.isSome) = true := by rfl) (hks : (backToKw pos (keywordEach kws X.env)).filterMap (·.1) = ks := by rfl)
    (hlen : (e :: es).length = n := by rfl) (hlk : kws.length = ks.length := by rfl) (hg : Gl X x := by rfl) (hdb : (x == ("__debug__" : Str)) = false := by decide) (he : starEach (e :: es) X.env = (false, eval e X.env) :: starEach es X.env := by rfl)
    (hpl : ((backTo pos (starEach (e :: es) X.env)).any (·.1) || (backToKw pos (keywordEach kws X.env)).any (·.1.isNone)) = false := by rfl) :
    FE X W (.Call (.Name x p) (e :: es) kws pos) (eN (cF n ks.length pm [] ps.length F) (aApp n ks.length fs fk)) := by
  obtain ⟨f, fd, dV, hF, hd, hm, hG⟩ := h.ex
  obtain ⟨_, rfl⟩ := hd.resolve_right fun z => z.1 rfl
  exact fe_callK hG gd hr tk hm hF.kp (bindK_of hF hb) .nil (fun _ _ => rfl) ha hkw hall hks hlen hlk hg hdb he hpl
theorem fe_fnK0 {kws : List Keyword} (h : Has X.prog X.w X.K X.mg X.base j x nm st [] ps F) (gd : X.A.guards = some []) (hr : Room j X.A) (tk : Takes X W)
    (hb : ∀ (kV doc pV : Value) (an : Option Addr) (cdv ct : Value) (us ws : List Value), us.length = 0 → ws.length = ks.length → bindArgs (docD nm st .none kV doc pV an cdv ct) ⟨us, ks.zip ws⟩ = pure (ps.zip (permL pm (us ++ ws))))
    (hkw : FK X W kws fk) (hall : (backToKw pos (keywordEach kws X.env)).all (·.1.isSome) = true := by rfl) (hks : (backToKw pos (keywordEach kws X.env)).filterMap (·.1) = ks := by rfl)
    (hlk : kws.length = ks.length := by rfl) (hg : Gl X x := by rfl) (hdb : (x == ("__debug__" : Str)) = false := by decide)
    (hpl : ((backTo pos (starEach [] X.env)).any (·.1) || (backToKw pos (keywordEach kws X.env)).any (·.1.isNone)) = false := by rfl) :
    FE X W (.Call (.Name x p) [] kws pos) (eN (cF 0 ks.length pm [] ps.length F) fk) := by
  obtain ⟨f, fd, dV, hF, hd, hm, hG⟩ := h.ex
  obtain ⟨_, rfl⟩ := hd.resolve_right fun z => z.1 rfl
  exact fe_callK0 hG gd hr tk hm hF.kp (bindK_of hF hb) .nil (fun _ _ => rfl) hkw hall hks hlk hg hdb hpl
/-- the module's constants -/
theorem fe_kint {i : Int} (h : ∃ t, X.mg x = some (.int i t)) (hg : Gl X x := by rfl) (hd : (x == ("__debug__" : Str)) = false := by decide) : FE X W (.Name x pos) (eC (.int i)) := by
  obtain ⟨t, h⟩ := h
  exact fe_gint h hg hd
theorem fe_kstr {z : List Nat} (h : ∃ t, X.mg x = some (.str ⟨z.toArray⟩ t)) (hg : Gl X x := by rfl) (hd : (x == ("__debug__" : Str)) = false := by decide) : FE X W (.Name x pos) (eC (.str z)) := by
  obtain ⟨t, h⟩ := h
  exact fe_gstr h rfl hg hd
/-- a value of the written part -/
def KD (G : Gm) (x : Str) (d : D) : Prop := ∃ u v, G.mg x = some u ∧ RelV v u ∧ ∀ ι H, RV G ι H d v
theorem fe_kd {d : D} (h : KD (gm X) x d) (hg : Gl X x := by rfl) (hd : (x == ("__debug__" : Str)) = false := by decide) : FE X W (.Name x pos) (eC d) := by
  obtain ⟨u, v, hm, r, hr⟩ := h
  exact constE (pe_glob hg hm r hd) hr
end
/-- a value as it stands in the written part -/
def KV1 (G : Gm) (d : D) (u : Value) : Prop := ∃ v, RelV v u ∧ ∀ ι H, RV G ι H d v
theorem kv_int {G : Gm} {i : Int} {t : Tok} : KV1 G (.int i) (.int i t) := ⟨.int i, ⟨t, rfl⟩, fun _ _ => rfl⟩
theorem kv_bl {G : Gm} {b : Bool} : KV1 G (.bl b) (.bool b) := ⟨.bl b, rfl, fun _ _ => rfl⟩
theorem kv_non {G : Gm} : KV1 G .non .none := ⟨.non, rfl, fun _ _ => rfl⟩
theorem kv_str {G : Gm} {z : Str} {x : List Nat} {t : Tok} (h : z = ⟨x.toArray⟩) : KV1 G (.str x) (.str z t) := ⟨.str z, ⟨t, rfl⟩, fun _ _ => by rw [h]; exact rfl⟩
inductive KVs (G : Gm) : List D → List Value → Prop
  | nil : KVs G [] []
  | cons {d : D} {ds : List D} {u : Value} {us : List Value} : KV1 G d u → KVs G ds us → KVs G (d :: ds) (u :: us)
theorem KVs.vals {G : Gm} : ∀ {ds : List D} {us : List Value}, KVs G ds us → ∃ vs, Vals vs us ∧ ∀ ι H, RVs G ι H ds vs
  | _, _, .nil => ⟨[], .nil, fun _ _ => rfl⟩
  | _, _, .cons h t => by
    obtain ⟨v, h1, h2⟩ := h
    obtain ⟨vs, h3, h4⟩ := KVs.vals t
    exact ⟨v :: vs, .cons h1 h3, fun ι H => ⟨v, vs, rfl, h2 ι H, h4 ι H⟩⟩
theorem kv_tup {G : Gm} {a : Addr} {od : Option Addr} {us : List Value} {ds : List D} {n : Nat} {sl : Array (Option Value)} (l : G.K.lookup a = some ⟨.type "tuple", od, .seq us.toArray n, sl⟩) (h : KVs G ds us) (hz : us.length ≤ LINE := by exact Nat.le_of_ble_eq_true rfl) : KV1 G (.tup ds) (.ref a) := by
  obtain ⟨vs, h1, h2⟩ := h.vals
  exact ⟨.ref a, rfl, fun ι H => ⟨a, vs, rfl, .inr ⟨_, us.toArray, n, l, rfl, rfl, by rw [← line_eq]; simpa using hz, by simpa using h1⟩, h2 ι H⟩⟩
theorem kd_of {K : PySem.W.Frag} {mg : Str → Option Value} {h : Heap} {x : Str} {u : Value} {d : D} (X : K.In h) (N : h.Ns mainGlobals mg) (a : PySem.W.nsIn K mainGlobals x = some (some u)) (k : KV1 ⟨K, mg⟩ d u) : KD ⟨K, mg⟩ x d := by
  obtain ⟨v, h1, h2⟩ := k
  exact ⟨u, v, PySem.W.mg_of X N a, h1, h2⟩
/-- where a def with defaults stands -/
theorem at_ofD {K : PySem.W.Frag} {mg : Str → Option Value} {x nm : Str} {st : Stmt} {f T : Addr} {oc : Value} {od an oT : Option Addr} {osl sT : Array (Option Value)} {kV doc pm cdv ct : Value} {h : Heap} {us : List Value} {dds : List D} {n : Nat} (X : K.In h) (G : h.Ns mainGlobals mg) (a : PySem.W.nsIn K mainGlobals x = some (some (.ref f)))
    (l : K.lookup f = some ⟨oc, od, .func (PySem.W.fnOf nm nm (defArgs st) (defBody st) (defScope st) (.ref T) kV doc pm an cdv ct), osl⟩) (lT : K.lookup T = some ⟨.type "tuple", oT, .seq us.toArray n, sT⟩) (hv : KVs ⟨K, mg⟩ dds us)
    (c : PySem.W.codeIn K cdv nm = true) (k : PySem.W.keepIn K (.ref f) = true) (hne : dds ≠ [] := by simp) : At K mg x nm st dds := by
  obtain ⟨vs, h1, h2⟩ := hv.vals
  exact ⟨f, _, .ref T, ⟨⟨oc, od, kV, doc, pm, an, cdv, ct, osl, rfl, l, c⟩, k⟩, .inr ⟨hne, T, _, us, n, vs, rfl, lT, rfl, h1, h2⟩, PySem.W.mg_of X G a⟩
theorem lt_line {n m k : Nat} (h : n + 64 < k) (hm : m ≤ 64) : n + m < k := by omega
end Fz

/-! Fz11: a list times an int. -/
namespace Fz
open PySem PySem.Spec PyProof.Rows L2
def vMulA : D → D → Sto → R D
  | .str [c], .int k, S => if 1 ≤ k ∧ k < 1000000 then .ok (.str (List.replicate k.toNat c)) S else .stuck
  | .int i, .int j, S => if mulOk i j then .ok (.int (i * j)) S else .stuck
  | .ref n, .int k, S => match S[n]? with
    | some (.lst ds) => if -(2 ^ 62) < k ∧ k < 2 ^ 62 ∧ ds.length * k.toNat ≤ LINE then .ok (.ref S.length) (S ++ [.lst (List.replicate k.toNat ds).flatten]) else .stuck
    | _ => .stuck
  | _, _, _ => .stuck
section
variable {X : Cx}
def rMulC : R2 := fun x y H Q => ∃ (c : Nat) (k : Int), x = .str ⟨#[c]⟩ ∧ y = .int k ∧ 1 ≤ k ∧ k < 1000000 ∧ Q (.str ⟨(List.replicate k.toNat c).toArray⟩) H
theorem mulC_eq (c : Nat) (k : Int) (h : 1 ≤ k) : Txt.mul ⟨#[c]⟩ k = ⟨(List.replicate k.toNat c).toArray⟩ := by
  have fold : ∀ (n : Nat) (acc : Array Nat), (List.replicate n #[c]).foldl (· ++ ·) acc = acc ++ (List.replicate n c).toArray := by
    intro n
    induction n with
    | zero => intro acc; simp
    | succ n ih =>
      intro acc
      rw [List.replicate_succ, List.foldl_cons, ih, List.replicate_succ]
      apply Array.ext'
      simp
  unfold Txt.mul
  rw [if_neg (by omega)]
  split
  · rename_i h1
    have h2 : k = 1 := by
      have e : (Str.mk #[c]).length = 1 := rfl
      rw [e] at h1
      simpa using h1
    subst h2; rfl
  · rw [fold]; simp
theorem mulC_ok (c : Nat) (k : Int) (h : 1 ≤ k) (h2 : k < 1000000) : PySem.MulOk ⟨#[c]⟩ k := by
  have e : (Str.mk #[c]).length = 1 := rfl
  refine ⟨?_, fun _ _ => ?_, fun _ _ => ?_⟩
  · simp; omega
  · rw [e]
    have : 1 ≤ (2 ^ 63 - 1) / k := by
      rw [Int.le_ediv_iff_mul_le (by omega)]; omega
    omega
  · rw [e]
    have : sizeLine = 16777216 := by decide
    simp [Builtin.Str.tooLong]; omega
theorem op_mulC : OpR X (binaryOp .Mult) rMulC := by
  intro pins s σ H x y v u Q I rx ry h
  obtain ⟨c, k, rfl, rfl, h1, h2, q⟩ := h
  obtain ⟨t, rfl⟩ := rx
  obtain ⟨t', rfl⟩ := ry
  refine PySem.SB.mul (mulC_ok c k h1 h2) fun t'' k'' => ?_
  rw [mulC_eq c k h1]
  exact ⟨.str _, H, I.tok _, ⟨_, rfl⟩, q⟩
def rMulA : R2 := fun x y H Q => ((rI mulOk fun i j => .int (i * j)) x y H Q ∨ rRep x y H Q) ∨ rMulC x y H Q
theorem op_mulA : OpR X (binaryOp .Mult) rMulA := (op_mulB.or op_rep).or op_mulC
theorem RVs.rep {G : Gm} {ι : List Addr} {H : Hp} {ds : List D} {vs : List V} (h : RVs G ι H ds vs) : ∀ k : Nat, RVs G ι H (List.replicate k ds).flatten (List.replicate k vs).flatten
  | 0 => rfl
  | k + 1 => by rw [List.replicate_succ, List.replicate_succ, List.flatten_cons, List.flatten_cons]; exact RVs.append h (RVs.rep h k)
theorem v_mulA {G : Gm} : V2 G vMulA rMulA := by
  intro W ι H S d e v u Q rep r1 r2 p
  unfold vMulA at p
  split at p
  · split at p
    · rename_i hc
      exact .inr ⟨_, _, r1, r2, hc.1, hc.2, p _ H ι (Ext.refl _ _) rep rfl⟩
    · exact p.elim
  · split at p
    · rename_i hc
      exact .inl (.inl ⟨_, _, r1, r2, hc, p _ H ι (Ext.refl _ _) rep rfl⟩)
    · exact p.elim
  · rename_i n k
    split at p
    · rename_i ds hx
      split at p
      · rename_i hl
        obtain ⟨a, h1, rfl⟩ := r1
        obtain ⟨vs, h3, h4⟩ := rep.cell _ _ a hx h1
        exact .inl (.inr ⟨a, k, vs, rfl, r2, h3, by omega, by omega, by rw [← h4.length, ← line_eq]; exact hl.2.2, fun q hq => post_lst rep (RVs.rep h4 k.toNat) hq p⟩)
      · exact p.elim
    · exact p.elim
  · exact p.elim
end
/-! ### sum of a tuple -/
def vSumA : List D → Sto → R D
  | [.tup ds], S => match intsOf ds with
    | some ns => .ok (.int ns.sum) S
    | none => .stuck
  | [d], S => match (lstOf d S).bind intsOf with
    | some ns => .ok (.int ns.sum) S
    | none => .stuck
  | _, _ => .stuck
section
variable {X : Cx}
def rSumT (K : PySem.W.Frag) : List V → Hp → VK → Prop := fun vs H Q => ∃ (a : Addr) (ns : List Int), vs = [V.ref a] ∧ SqT K H a (ns.map V.int) ∧ Q (.int ns.sum) H
theorem cr_sumT (hc : X.calm = true) : CallR X (.builtin "sum") (rSumT X.K) := by
  intro pins s σ H vs us Q I r h
  obtain ⟨a, ns, rfl, hs, q⟩ := h
  obtain ⟨its, rv, hl, _⟩ := I.tuple hs
  rw [Vals.ref1 r]
  obtain ⟨xs, e⟩ := rv.ints.allInts.items
  have hn : numsOf (intItems xs).toList = ns := by rw [← e]; exact rv.ints.numsOf
  rw [nums_intItems] at hn
  rw [e] at hl
  refine PySem.W.ktm_sumG (I.ok.hd hc) hl fun h' tk t' hk => ?_
  rw [preSum_eq, List.take_of_length_le (by simp), hn]
  exact ⟨.int _, H, I.kept hk, ⟨_, rfl⟩, q⟩
def rSumA (K : PySem.W.Frag) : List V → Hp → VK → Prop := fun vs H Q => rSum K vs H Q ∨ rSumT K vs H Q
theorem cr_sumA (hc : X.calm = true) : CallR X (.builtin "sum") (rSumA X.K) := by
  intro pins s σ H vs us Q I r h
  rcases h with h | h
  · exact cr_sum hc pins s σ H vs us Q I r h
  · exact cr_sumT hc pins s σ H vs us Q I r h
theorem v_sumA {G : Gm} : VN G vSumA (rSumA G.K) := by
  intro W ι H S ds vs Q rep rvs p
  unfold vSumA at p
  split at p
  · split at p
    · rename_i ns hns
      obtain ⟨v, rfl, r⟩ := args1 rvs
      obtain ⟨a, us, rfl, h3, h4⟩ := r
      obtain ⟨rfl, _⟩ := ints_vs h4 hns
      exact .inr ⟨a, ns, rfl, h3, p _ H ι (Ext.refl _ _) rep rfl⟩
    · exact p.elim
  · split at p
    · rename_i ns hns
      obtain ⟨v, rfl, r⟩ := args1 rvs
      obtain ⟨es, h1, h2⟩ := Option.bind_eq_some_iff.mp hns
      obtain ⟨a, us, rfl, h3, h4⟩ := lst_of rep r h1
      obtain ⟨rfl, _⟩ := ints_vs h4 h2
      exact .inl ⟨a, ns, rfl, h3, p _ H ι (Ext.refl _ _) rep rfl⟩
    · exact p.elim
  · exact p.elim
end
/-! ### a, b, .. = a tuple or a list -/
def gTl (n : Nat) (g : Tgs) : Tg := fun d env S => match d with
  | .tup ds => if ds.length = n then g ds env S else .stuck
  | d => match lstOf d S with
    | some ds => if ds.length = n then g ds env S else .stuck
    | none => .stuck
section
variable {X : Cx} {pos : Pos} {tgs : List Expr} {gs : Tgs} {ws : List Nat}
theorem pg_or {tg : Expr} {t t' : TG} (h : PG X tg t) (h' : PG X tg t') : PG X tg fun v σ H Q => t v σ H Q ∨ t' v σ H Q :=
  ⟨fun pins s σ H v u Q I r q => q.elim (h.run pins s σ H v u Q I r) (h'.run pins s σ H v u Q I r)⟩
theorem fg_tl {k n : Nat} (hc : X.calm = true) (h : FGs X ws tgs gs) (hn : (assignEach tgs X.env).length = n := by rfl) (hst : (assignEach tgs X.env).findIdx? (·.1) = none := by rfl) : FG X ws (.Tuple tgs k pos) (gTl n gs) := by
  refine ⟨PG.weak (pg_or (pg_tup hc h.pg hn hst) (pg_lst hc h.pg hn hst)) fun v σ H Q h => ?_⟩
  obtain ⟨ι, env, S, d, rep, er, rv, p⟩ := h
  unfold gTl at p
  split at p
  · split at p
    · rename_i hl
      obtain ⟨a, vs, rfl, h1, h2⟩ := rv
      exact .inl ⟨a, vs, rfl, h1, by rw [← h2.length]; exact hl, ι, env, S, _, rep, er, h2, p⟩
    · exact p.elim
  · split at p
    · rename_i ds hds
      split at p
      · rename_i hl
        obtain ⟨a, vs, rfl, h1, h2⟩ := lst_of rep rv hds
        exact .inr ⟨a, vs, rfl, h1, by rw [← h2.length]; exact hl, ι, env, S, _, rep, er, h2, p⟩
      · exact p.elim
    · exact p.elim
end
/-! ### list(range(a, b)) -/
instance (a b : Int) : Decidable (RgOk a b) := by unfold RgOk; infer_instance
def vLR (x y : D) (S : Sto) : R D := match x, y with
  | .int i, .int j => if RgOk i j then .ok (.ref S.length) (S ++ [.lst (intsD i 1 (j - i).toNat)]) else .stuck
  | _, _ => .stuck
section
variable {X : Cx} {W : WS} {a b : Expr} {fa fb : E} {p pos p2 pos2 : Pos}
theorem RVs.rg {G : Gm} {ι : List Addr} {H : Hp} (i j : Int) : RVs G ι H (intsD i 1 (j - i).toNat) (rgV i j) := by
  have e1 : intsD i 1 (j - i).toNat = ((List.range (j - i).toNat).map fun (k : Nat) => i + (k : Int)).map D.int := by
    unfold intsD; rw [List.map_map]; congr 1; funext k; simp [Int.mul_one]
  have e2 : rgV i j = ((List.range (j - i).toNat).map fun (k : Nat) => i + (k : Int)).map V.int := by
    unfold rgV; rw [List.map_map]; rfl
  rw [e1, e2]; exact RVs.ints _
theorem fe_lr (hc : X.calm = true) (hl : X.mg "list" = none) (hr : X.mg "range" = none) (ha : FE X W a fa) (hb : FE X W b fb) (hg : Gl X "list" := by rfl) (hg2 : Gl X "range" := by rfl)
    (na : starEach [a, b] X.env = (false, eval a X.env) :: starEach [b] X.env := by rfl) (nb : starEach [b] X.env = (false, eval b X.env) :: starEach [] X.env := by rfl) (hp : (backTo pos2 (starEach [b] X.env)).any (·.1) = false := by rfl)
    (nc : starEach [.Call (.Name "range" p2) [a, b] [] pos2] X.env = (false, eval (.Call (.Name "range" p2) [a, b] [] pos2) X.env) :: starEach [] X.env := by rfl) :
    FE X W (.Call (.Name "list" p) [.Call (.Name "range" p2) [a, b] [] pos2] [] pos) (e2 vLR fa fb) := by
  refine ⟨PE.weak (pe_listRg hc hg hl (prg_2 hg2 hr ha.pe hb.pe na nb hp) nc) fun σ H Q h => ?_⟩
  obtain ⟨ι, env, S, rep, er, q⟩ := h
  refine ⟨ι, env, S, rep, er, Post.imp (Post.bind q) fun x H1 q1 => ?_⟩
  obtain ⟨d1, S1, ι1, e1, rep1, r1, q1⟩ := q1
  refine ⟨ι1, env, S1, rep1, er.ext e1, Post.imp (Post.bind q1) fun y H2 q2 => ?_⟩
  obtain ⟨d2, S2, ι2, e2, rep2, r2, q2⟩ := q2
  unfold vLR at q2
  split at q2
  · rename_i i j
    split at q2
    · rename_i hk
      have r1' : x = .int i := r1
      exact ⟨i, j, r1', r2, hk, fun z hz => post_lst rep2 (RVs.rg i j) hz q2⟩
    · exact q2.elim
  · exact q2.elim
end
end Fz

namespace Fz
open PySem PySem.Spec PyProof.Rows L2
/-! ### what a run yields -/
def R.sat {α : Type} (r : R α) (Q : α → Sto → Prop) : Prop := match r with
  | .ok a S => Q a S
  | _ => False
def Fl.sat (r : Fl) (N : EnvD → Sto → Prop) (T : D → Sto → Prop) (B C : EnvD → Sto → Prop) : Prop := match r with
  | .nx e S => N e S
  | .rt d S => T d S
  | .bk e S => B e S
  | .ct e S => C e S
  | _ => False
abbrev Sm.run (b : Sm) (env : EnvD) (S : Sto) (N : EnvD → Sto → Prop) (T : D → Sto → Prop) (B C : EnvD → Sto → Prop) : Prop := (b env S).sat N T B C
theorem sat_eq {α : Type} {r : R α} {a : α} {S : Sto} (h : r.sat fun b T => b = a ∧ T = S) : r = .ok a S := by
  cases r with
  | ok b T => obtain ⟨rfl, rfl⟩ := h; rfl
  | exc C fs T => exact h.elim
  | stuck => exact h.elim
theorem sat_mono {α : Type} {r : R α} {Q Q' : α → Sto → Prop} (h : r.sat Q) (k : ∀ a S, Q a S → Q' a S) : r.sat Q' := by
  cases r with
  | ok b T => exact k _ _ h
  | exc C fs T => exact h.elim
  | stuck => exact h.elim
theorem sat_and {α : Type} {r : R α} {Q Q' : α → Sto → Prop} (h : r.sat Q) (h' : r.sat Q') : r.sat fun a S => Q a S ∧ Q' a S := by
  cases r with
  | ok b T => exact ⟨h, h'⟩
  | exc C fs T => exact h.elim
  | stuck => exact h.elim
theorem sat_ex {α : Type} {r : R α} {Q : α → Sto → Prop} (h : r.sat Q) : ∃ a S, r = .ok a S ∧ Q a S := by
  cases r with
  | ok b T => exact ⟨_, _, rfl, h⟩
  | exc C fs T => exact h.elim
  | stuck => exact h.elim
theorem fsat_mono {r : Fl} {N N' : EnvD → Sto → Prop} {T T' : D → Sto → Prop} {B B' C C' : EnvD → Sto → Prop} (h : r.sat N T B C)
    (n : ∀ e S, N e S → N' e S) (t : ∀ d S, T d S → T' d S) (b : ∀ e S, B e S → B' e S) (c : ∀ e S, C e S → C' e S) : r.sat N' T' B' C' := by
  cases r with
  | nx e S => exact n _ _ h
  | rt e S => exact t _ _ h
  | bk e S => exact b _ _ h
  | ct e S => exact c _ _ h
  | exc _ _ _ => exact h.elim
  | stuck => exact h.elim
def intR (d : D) (S : Sto) : R Int := match d with
  | .int i => .ok i S
  | _ => .stuck
def starR (d : D) (r : As) (env : EnvD) (S1 : Sto) : R (List D) := match d with
  | .tup ds => (r env S1).bind fun xs S2 => .ok (ds ++ xs) S2
  | .frl ds => (r env S1).bind fun xs S2 => .ok (ds ++ xs) S2
  | .ref n => match S1[n]? with
    | some (.lst ds) => (r env S1).bind fun xs S2 => if noRef.noRefs S1.length ds = true then .ok (ds ++ xs) S2 else .stuck
    | _ => .stuck
  | _ => .stuck
def cellQ (o : Option Cell) (Q : List D → Prop) : Prop := match o with
  | some (.lst ds) => Q ds
  | _ => False
def optQ {α : Type} (o : Option α) (Q : α → Prop) : Prop := match o with
  | some a => Q a
  | none => False
theorem cellQ_lst (ds : List D) (Q : List D → Prop) : cellQ (some (.lst ds)) Q = Q ds := rfl
theorem optQ_some {α : Type} (a : α) (Q : α → Prop) : optQ (some a) Q = Q a := rfl
theorem optQ_none {α : Type} (Q : α → Prop) : optQ none Q = False := rfl
theorem atI_nat {α : Type} (xs : List α) (k : Nat) : L2.atI xs (k : Int) = xs[k]? := by
  unfold L2.atI L2.ixN
  rw [if_pos (by omega)]
  by_cases h : k < xs.length
  · rw [if_pos (by omega)]; simp
  · rw [if_neg (by omega), List.getElem?_eq_none (by omega)]; rfl
theorem atI_0 {α : Type} (xs : List α) : L2.atI xs 0 = xs[0]? := atI_nat xs 0
theorem atI_1 {α : Type} (xs : List α) : L2.atI xs 1 = xs[1]? := atI_nat xs 1
theorem atI_n {α : Type} (xs : List α) (k : Nat) : L2.atI xs (no_index (OfNat.ofNat k)) = xs[(OfNat.ofNat k : Nat)]? := atI_nat xs k
theorem atI_neg {α : Type} (xs : List α) (k : Nat) (h : 0 < k) (hk : k ≤ xs.length) : L2.atI xs (-(k : Int)) = xs[xs.length - k]? := by
  unfold L2.atI L2.ixN
  rw [if_neg (by omega), if_pos (by omega)]
  show xs[(_ : Int).toNat]? = _
  congr 1; omega
theorem ixN_nat (n k : Nat) : L2.ixN n (k : Int) = if k < n then some k else none := by
  unfold L2.ixN
  rw [if_pos (by omega)]
  by_cases h : k < n
  · rw [if_pos (by omega), if_pos h]; rfl
  · rw [if_neg (by omega), if_neg h]
theorem ixN_0 (n : Nat) : L2.ixN n 0 = if 0 < n then some 0 else none := ixN_nat n 0
theorem ixN_1 (n : Nat) : L2.ixN n 1 = if 1 < n then some 1 else none := ixN_nat n 1
theorem ixN_n (n k : Nat) : L2.ixN n (no_index (OfNat.ofNat k)) = if (OfNat.ofNat k : Nat) < n then some (OfNat.ofNat k : Nat) else none := ixN_nat n k
theorem app_at (S l : Sto) (k : Nat) : (S ++ l)[S.length + k]? = l[k]? := by rw [List.getElem?_append_right (by omega), Nat.add_sub_cancel_left]
theorem app_at0 (S l : Sto) : (S ++ l)[S.length]? = l[0]? := app_at S l 0
theorem app_lt {S : Sto} {p : Nat} (h : p < S.length) (l : Sto) : (S ++ l)[p]? = S[p]? := List.getElem?_append_left h
theorem set_at {S : Sto} {p : Nat} (h : p < S.length) (c : Cell) : (S.set p c)[p]? = some c := by simp [h]
theorem set_app {S : Sto} {p : Nat} (h : p < S.length) (c : Cell) (l : Sto) : (S ++ l).set p c = S.set p c ++ l := by rw [List.set_append_left _ _ h]
section
variable {α β : Type} {Q : α → Sto → Prop} {QD : D → Sto → Prop} {QB : Bool → Sto → Prop} {QL : List D → Sto → Prop} {S : Sto} {env : EnvD} {N : EnvD → Sto → Prop} {U : D → Sto → Prop} {B C : EnvD → Sto → Prop}
theorem r_ok (a : α) : (R.ok a S).sat Q = Q a S := rfl
theorem r_stuck : (R.stuck : R α).sat Q = False := rfl
theorem r_ite {c : Prop} [Decidable c] (x y : R α) : (if c then x else y).sat Q = if c then x.sat Q else y.sat Q := by split <;> rfl
theorem r_bind (r : R β) (k : β → Sto → R α) : (r.bind k).sat Q = r.sat fun a S => (k a S).sat Q := by cases r <;> rfl
theorem r_fl (r : R β) (k : β → Sto → Fl) : (r.fl k).sat N U B C = r.sat fun a S => (k a S).sat N U B C := by cases r <;> rfl
theorem r_fl0 (r : R β) (k : β → Sto → Fl) : (r.fl0 k).sat N U B C = r.sat fun a S => (k a S).sat N U B C := by cases r <;> rfl
theorem f_ite {c : Prop} [Decidable c] (x y : Fl) : (if c then x else y).sat N U B C = if c then x.sat N U B C else y.sat N U B C := by split <;> rfl
theorem if_false' {c : Prop} [Decidable c] (a : Prop) : (if c then a else False) = (c ∧ a) := by by_cases h : c <;> simp [h]
theorem if_true' {c : Prop} [Decidable c] (a : Prop) : (if c then False else a) = (¬c ∧ a) := by by_cases h : c <;> simp [h]
/-! statements -/
theorem x_nil : (sNil env S).sat N U B C = N env S := rfl
theorem x_seq (a b : Sm) : (sSeq a b env S).sat N U B C = (a env S).sat (fun e S1 => (b e S1).sat N U B C) U B C := by
  unfold sSeq
  cases a env S <;> rfl
theorem x_expr (a : E) : (sExpr a env S).sat N U B C = (a env S).sat fun _ S1 => N env S1 := by unfold sExpr; rw [r_fl]; rfl
theorem x_ret (a : E) : (sRet a env S).sat N U B C = (a env S).sat fun d S1 => U d S1 := by unfold sRet; rw [r_fl]; rfl
theorem x_retN : (sRetN env S).sat N U B C = U .non S := rfl
theorem x_brk : (sBrk env S).sat N U B C = B env S := rfl
theorem x_cnt : (sCnt env S).sat N U B C = C env S := rfl
theorem x_stuck : (sStuck env S).sat N U B C = False := rfl
theorem x_if (c : T) (a b : Sm) : (sIf c a b env S).sat N U B C = (c env S).sat fun k S1 => if k = true then (a env S1).sat N U B C else (b env S1).sat N U B C := by
  unfold sIf; rw [r_fl]; congr; funext k S1; rw [f_ite]
theorem x_asg (a : E) (g : Tg) : (sAsg a g env S).sat N U B C = (a env S).sat fun d S1 => (g d env S1).sat fun e S2 => N e S2 := by
  unfold sAsg; rw [r_fl]; congr; funext k S1; rw [r_fl0]; rfl
theorem x_par2 (i j : Nat) (a b : E) : (sPar2 i j (aCons a (aCons b aNil)) env S).sat N U B C = (a env S).sat fun x S1 => (b env S1).sat fun y S2 => N ((env.set i (some x)).set j (some y)) S2 := by
  simp only [sPar2, aCons, aNil, r_fl, r_bind, r_ok]; rfl
theorem x_par3 (i j l : Nat) (a b c : E) : (sPar3 i j l (aCons a (aCons b (aCons c aNil))) env S).sat N U B C = (a env S).sat fun x S1 => (b env S1).sat fun y S2 => (c env S2).sat fun z S3 => N (((env.set i (some x)).set j (some y)).set l (some z)) S3 := by
  simp only [sPar3, aCons, aNil, r_fl, r_bind, r_ok]; rfl
/-! targets -/
theorem g_nm (i : Nat) (d : D) {Q : EnvD → Sto → Prop} : (gNm i d env S).sat Q = Q (env.set i (some d)) S := rfl
theorem g_nil {Q : EnvD → Sto → Prop} : (gsNil [] env S).sat Q = Q env S := rfl
theorem g_cons (g : Tg) (r : Tgs) (d : D) (ds : List D) {Q : EnvD → Sto → Prop} : (gsCons g r (d :: ds) env S).sat Q = (g d env S).sat fun e S1 => (r ds e S1).sat Q := by unfold gsCons; rw [r_bind]
theorem g_tp (n : Nat) (g : Tgs) (ds : List D) {Q : EnvD → Sto → Prop} : (gTp n g (.tup ds) env S).sat Q = (ds.length = n ∧ (g ds env S).sat Q) := by
  show (if ds.length = n then g ds env S else .stuck).sat Q = _
  rw [r_ite, r_stuck, if_false']
theorem g_sb (a b : E) (d : D) {Q : EnvD → Sto → Prop} : (gSb a b d env S).sat Q = (a env S).sat fun o S1 => (b env S1).sat fun i S2 => (vSet o i d S2).sat fun _ S3 => Q env S3 := by
  simp only [gSb, r_bind, r_ok]
theorem g_set (n : Nat) (i : Int) (d : D) {Q : Unit → Sto → Prop} : (vSet (.ref n) (.int i) d S).sat Q = cellQ S[n]? fun ds => optQ (L2.ixN ds.length i) fun j => Q () (S.set n (.lst (ds.set j d))) := by
  unfold vSet; simp only; rcases S[n]? with _ | ⟨ds | kvs⟩ 
  · rfl
  · simp only [cellQ_lst]; cases L2.ixN ds.length i <;> rfl
  · rfl
/-! expressions -/
theorem e_var {i : Nat} {d : D} (h : env[i]? = some (some d)) : (eVar i env S).sat QD = QD d S := by unfold eVar; rw [h]; rfl
theorem e_var0 (d : D) (env : EnvD) : (eVar 0 (some d :: env) S).sat QD = QD d S := rfl
theorem e_varS (n : Nat) (d : Option D) (env : EnvD) : (eVar (n + 1) (d :: env) S).sat QD = (eVar n env S).sat QD := rfl
theorem e_c (d : D) : (eC d env S).sat QD = QD d S := rfl
theorem e_1 (f : D → Sto → R D) (a : E) : (e1 f a env S).sat QD = (a env S).sat fun x S1 => (f x S1).sat QD := by unfold e1; rw [r_bind]
theorem e_2 (f : D → D → Sto → R D) (a b : E) : (e2 f a b env S).sat QD = (a env S).sat fun x S1 => (b env S1).sat fun y S2 => (f x y S2).sat QD := by unfold e2; simp only [r_bind]
theorem e_n (f : List D → Sto → R D) (as : As) : (eN f as env S).sat QD = (as env S).sat fun xs S1 => (f xs S1).sat QD := by unfold eN; rw [r_bind]
theorem e_gc (a : E) : (eGc a env S).sat QD = (a env S).sat fun d S1 => (gcV S.length d S1).sat QD := by unfold eGc; rw [r_bind]
theorem e_if (c : T) (a b : E) : (eIf c a b env S).sat QD = (c env S).sat fun k S1 => if k = true then (a env S1).sat QD else (b env S1).sat QD := by unfold eIf; rw [r_bind]; congr; funext k S1; rw [r_ite]
theorem e_and (a b : E) : (eAnd a b env S).sat QD = (a env S).sat fun d S1 => (truR d S1).sat fun k S2 => if k = true then (b env S2).sat QD else QD d S2 := by
  unfold eAnd; simp only [r_bind]; congr; funext k S1; congr; funext c S2; rw [r_ite]; rfl
theorem e_or (a b : E) : (eOr a b env S).sat QD = (a env S).sat fun d S1 => (truR d S1).sat fun k S2 => if k = true then QD d S2 else (b env S2).sat QD := by
  unfold eOr; simp only [r_bind]; congr; funext k S1; congr; funext c S2; rw [r_ite]; rfl
theorem e_not (a : E) : (eNot a env S).sat QD = (a env S).sat fun d S1 => (truR d S1).sat fun k S2 => QD (.bl (!k)) S2 := by unfold eNot; simp only [r_bind, r_ok]
theorem e_ch (g g' : D → D → Sto → R D) (a b c : E) : (eCh g g' a b c env S).sat QD = (a env S).sat fun x S1 => (b env S1).sat fun y S2 => (g x y S2).sat fun z S3 => (blR z S3).sat fun k S4 => if k = true then (c env S4).sat fun u S5 => (g' y u S5).sat QD else QD (.bl false) S4 := by
  unfold eCh; simp only [r_bind]; congr; funext x S1; congr; funext y S2; congr; funext z S3; congr; funext k S4
  cases k <;> simp [r_bind, r_ok]
theorem e_sl (a : E) (lo hi : O) : (eSl a lo hi env S).sat QD = (a env S).sat fun d S1 => (lo env S1).sat fun l S2 => (hi env S2).sat fun u S3 => (vSl d l u S3).sat QD := by unfold eSl; simp only [r_bind]
theorem o_none {Q : Option Int → Sto → Prop} : (oNone env S).sat Q = Q none S := rfl
theorem o_some (a : E) {Q : Option Int → Sto → Prop} : (oSome a env S).sat Q = (a env S).sat fun d S1 => (intR d S1).sat fun i S2 => Q (some i) S2 := by
  unfold oSome; rw [r_bind]; congr; funext d S1; cases d <;> rfl
/-! arguments -/
theorem a_nil {Q : List D → Sto → Prop} : (aNil env S).sat Q = Q [] S := rfl
theorem a_cons (a : E) (r : As) {Q : List D → Sto → Prop} : (aCons a r env S).sat Q = (a env S).sat fun x S1 => (r env S1).sat fun xs S2 => Q (x :: xs) S2 := by unfold aCons; simp only [r_bind, r_ok]
theorem a_app (n m : Nat) (a b : As) {Q : List D → Sto → Prop} : (aApp n m a b env S).sat Q = (a env S).sat fun xs S1 => (b env S1).sat fun ys S2 => (xs.length = n ∧ ys.length = m) ∧ Q (xs ++ ys) S2 := by
  unfold aApp; simp only [r_bind, r_ite, r_ok, r_stuck, if_false']
theorem a_star (a : E) (r : As) {Q : List D → Sto → Prop} : (aStar a r env S).sat Q = (a env S).sat fun d S1 => (starR d r env S1).sat Q := by
  unfold aStar starR; rw [r_bind]; try rfl
/-! tests -/
theorem t_of (a : E) : (tOf a env S).sat QB = (a env S).sat fun d S1 => (truR d S1).sat QB := by unfold tOf; rw [r_bind]
theorem t_bl (a : E) : (tBl a env S).sat QB = (a env S).sat fun d S1 => (blR d S1).sat QB := by unfold tBl; rw [r_bind]
theorem t_not (f : T) : (tNot f env S).sat QB = (f env S).sat fun b S1 => QB (!b) S1 := by unfold tNot; rw [r_bind]; rfl
theorem t_and (f g : T) : (tAnd f g env S).sat QB = (f env S).sat fun b S1 => if b = true then (g env S1).sat QB else QB false S1 := by unfold tAnd; rw [r_bind]; congr; funext b S1; rw [r_ite]; rfl
theorem t_or (f g : T) : (tOr f g env S).sat QB = (f env S).sat fun b S1 => if b = true then QB true S1 else (g env S1).sat QB := by unfold tOr; rw [r_bind]; congr; funext b S1; rw [r_ite]; rfl
theorem t_yes : (tYesD env S).sat QB = QB true S := rfl
theorem b_bl (b : Bool) : (blR (.bl b) S).sat QB = QB b S := rfl
theorem u_bl (b : Bool) : (truR (.bl b) S).sat QB = QB b S := rfl
theorem u_int (i : Int) : (truR (.int i) S).sat QB = QB (i != 0) S := rfl
theorem u_non : (truR .non S).sat QB = QB false S := rfl
theorem u_tup (ds : List D) : (truR (.tup ds) S).sat QB = QB (!ds.isEmpty) S := rfl
theorem u_frl (ds : List D) : (truR (.frl ds) S).sat QB = QB (!ds.isEmpty) S := rfl
theorem u_str (x : List Nat) (h : x.length ≤ LINE) : (truR (.str x) S).sat QB = QB (!x.isEmpty) S := by simp only [truR, truD, if_pos h]; rfl
/-! calls -/
theorem c_F (n m : Nat) (pm : List Nat) (dds : List D) (np : Nat) (F : Fn) (ds : List D) (h1 : ds.length = n + m) (h2 : (permL pm (ds ++ dds)).length = np) : (cF n m pm dds np F ds S).sat QD = (F (permL pm (ds ++ dds)) S).sat QD := by
  unfold cF; rw [if_pos ⟨h1, h2⟩]
theorem d_F (np n : Nat) (b : Sm) (ds : List D) (h : ds.length = np) : (defF np n b ds S).sat QD = (b (ds.map some ++ List.replicate (n - np) none) S).sat (fun _ S1 => (gcV S.length .non S1).sat QD) (fun d S1 => (gcV S.length d S1).sat QD) (fun _ _ => False) (fun _ _ => False) := by
  unfold defF; rw [if_pos h]
  cases b (ds.map some ++ List.replicate (n - np) none) S <;> rfl
/-! values -/
theorem v_addI (i j : Int) : (vAdd (.int i) (.int j) S).sat QD = QD (.int (i + j)) S := rfl
theorem v_addS (x y : List Nat) : (vAdd (.str x) (.str y) S).sat QD = (x.length + y.length ≤ LINE ∧ QD (.str (x ++ y)) S) := by unfold vAdd; rw [r_ite, r_stuck, if_false']; rfl
theorem v_addT (x y : List D) : (vAdd (.tup x) (.tup y) S).sat QD = (x.length + y.length ≤ LINE ∧ QD (.tup (x ++ y)) S) := by unfold vAdd; rw [r_ite, r_stuck, if_false']; rfl
theorem v_subI (i j : Int) : (vSub (.int i) (.int j) S).sat QD = QD (.int (i - j)) S := rfl
theorem v_mulII (i j : Int) : (vMulI (.int i) (.int j) S).sat QD = (mulOk i j ∧ QD (.int (i * j)) S) := by unfold vMulI; rw [r_ite, r_stuck, if_false']; rfl
theorem v_divI (i j : Int) : (vDiv (.int i) (.int j) S).sat QD = (divOk j ∧ QD (.int (i / j)) S) := by unfold vDiv; rw [r_ite, r_stuck, if_false']; rfl
theorem v_modI (i j : Int) : (vMod (.int i) (.int j) S).sat QD = (0 < j ∧ QD (.int (i % j)) S) := by unfold vMod; rw [r_ite, r_stuck, if_false']; rfl
theorem v_powI (i j : Int) : (vPow (.int i) (.int j) S).sat QD = (CPow i j ∧ QD (.int (i ^ j.toNat)) S) := by unfold vPow; rw [r_ite, r_stuck, if_false']; rfl
theorem v_shlI (i j : Int) : (vShl (.int i) (.int j) S).sat QD = (CPow i j ∧ QD (.int (i * 2 ^ j.toNat)) S) := by unfold vShl; rw [r_ite, r_stuck, if_false']; rfl
theorem v_shrI (i j : Int) : (vShr (.int i) (.int j) S).sat QD = (0 ≤ j ∧ QD (.int (i / 2 ^ j.toNat)) S) := by unfold vShr; rw [r_ite, r_stuck, if_false']; rfl
theorem v_negI (i : Int) : (vNeg (.int i) S).sat QD = QD (.int (-i)) S := rfl
theorem v_cmpI (f : Int → Int → Bool) (i j : Int) : (vCmp f (.int i) (.int j) S).sat QD = QD (.bl (f i j)) S := rfl
theorem v_tup (ds : List D) : (vTup ds S).sat QD = (ds.length ≤ LINE ∧ QD (.tup ds) S) := by unfold vTup; rw [r_ite, r_stuck, if_false']; rfl
theorem v_lst (ds : List D) : (vLst ds S).sat QD = (ds.length ≤ LINE ∧ QD (.ref S.length) (S ++ [.lst ds])) := by unfold vLst; rw [r_ite, r_stuck, if_false']; rfl
theorem v_absI (i : Int) : (vAbs [.int i] S).sat QD = QD (.int (if i < 0 then -i else i)) S := rfl
theorem v_maxI (i j : Int) : (vMax2 [.int i, .int j] S).sat QD = QD (.int (if j > i then j else i)) S := rfl
theorem v_minI (i j : Int) : (vMin2 [.int i, .int j] S).sat QD = QD (.int (if j < i then j else i)) S := rfl
theorem v_intI (i : Int) : (vInt [.int i] S).sat QD = QD (.int i) S := rfl
theorem v_intB (k : Bool) : (vInt [.bl k] S).sat QD = QD (.int (if k then 1 else 0)) S := rfl
theorem v_gcdI (i j : Int) : (vGcd [.int i, .int j] S).sat QD = QD (.int ((Nat.gcd i.natAbs j.natAbs : Nat) : Int)) S := rfl
theorem v_dmI (i j : Int) : (vDivmod [.int i, .int j] S).sat QD = (CDiv i j ∧ QD (.tup [.int (i / j), .int (i % j)]) S) := by unfold vDivmod; rw [r_ite, r_stuck, if_false']; rfl
theorem v_lenS (x : List Nat) : (vLen [.str x] S).sat QD = (x.length ≤ LINE ∧ QD (.int x.length) S) := by unfold vLen; rw [r_ite, r_stuck, if_false']; rfl
theorem v_lenT (x : List D) : (vLen [.tup x] S).sat QD = QD (.int x.length) S := rfl
theorem v_lenF (x : List D) : (vLen [.frl x] S).sat QD = QD (.int x.length) S := rfl
theorem v_lenR (n : Nat) : (vLen [.ref n] S).sat QD = cellQ S[n]? fun x => QD (.int x.length) S := by unfold vLen; simp only; rcases S[n]? with _ | ⟨ds | kvs⟩ <;> rfl
theorem v_ixT (ds : List D) (i : Int) : (vIx (.tup ds) (.int i) S).sat QD = optQ (L2.atI ds i) fun d => QD d S := by unfold vIx; simp only; cases L2.atI ds i <;> rfl
theorem v_ixF (ds : List D) (i : Int) : (vIx (.frl ds) (.int i) S).sat QD = optQ (L2.atI ds i) fun d => QD d S := by unfold vIx; simp only; cases L2.atI ds i <;> rfl
theorem v_ixR (n : Nat) (i : Int) : (vIx (.ref n) (.int i) S).sat QD = cellQ S[n]? fun ds => optQ (L2.atI ds i) fun d => QD d S := by 
  unfold vIx; simp only; rcases S[n]? with _ | ⟨ds | kvs⟩
  · rfl
  · simp only [cellQ_lst]; cases L2.atI ds i <;> rfl
  · rfl
theorem v_ixS (x : List Nat) (i : Int) : (vIx (.str x) (.int i) S).sat QD = (x.length ≤ LINE ∧ optQ (L2.atI x i) fun c => QD (.str [c]) S) := by unfold vIx; simp only; rw [r_ite, r_stuck, if_false']; cases L2.atI x i <;> rfl
theorem v_slT (ds : List D) (l u : Option Int) : (vSl (.tup ds) l u S).sat QD = QD (.tup (cutD ds l u)) S := rfl
theorem v_slF (ds : List D) (l u : Option Int) : (vSl (.frl ds) l u S).sat QD = QD (.ref S.length) (S ++ [.lst (cutD ds l u)]) := rfl
theorem v_slR (n : Nat) (l u : Option Int) : (vSl (.ref n) l u S).sat QD = cellQ S[n]? fun ds => QD (.ref S.length) (S ++ [.lst (cutD ds l u)]) := by unfold vSl; simp only; rcases S[n]? with _ | ⟨ds | kvs⟩ <;> rfl
theorem v_slS (x : List Nat) (l u : Option Int) : (vSl (.str x) l u S).sat QD = (x.length ≤ LINE ∧ QD (.str (cutD x l u)) S) := by unfold vSl; simp only; rw [r_ite, r_stuck, if_false']; rfl
theorem v_revS (x : List Nat) : (vRev (.str x) S).sat QD = (x.length ≤ LINE ∧ QD (.str x.reverse) S) := by unfold vRev; simp only; rw [r_ite, r_stuck, if_false']; rfl
/-! garbage -/
theorem gc_self (d : D) : gcV S.length d S = .ok d S := by
  unfold gcV
  rw [List.take_length]
  split
  · split
    · rfl
    · split
      · rename_i k h
        cases hk : S[k]? with
        | none => rfl
        | some c =>
          have : k < S.length := by
            rcases Nat.lt_or_ge k S.length with z | z
            · exact z
            · rw [List.getElem?_eq_none z] at hk; cases hk
          simp only [noRef, decide_eq_true_eq] at h
          exact absurd this h
      · rfl
  · rfl
theorem gc_selfS (d : D) : (gcV S.length d S).sat QD = QD d S := by rw [gc_self]; rfl
/-- cells that name old cells alone -/
def Wf (S : Sto) : Prop := S.all (cellNo S.length) = true
theorem gc_drop {S' : Sto} {n : Nat} {d : D} (hw : (S'.take n).all (cellNo n) = true) (hd : noRef n d = true) : (gcV n d S').sat QD = QD d (S'.take n) := by unfold gcV; rw [if_pos hw, if_pos hd]; rfl
theorem gc_app {l : Sto} {d : D} (hw : Wf S) (hd : noRef S.length d = true) : (gcV S.length d (S ++ l)).sat QD = QD d S := by
  rw [gc_drop (by rw [List.take_left']; exact hw; rfl) hd, List.take_left' rfl]
theorem gc_new {l : Sto} {c : Cell} (hw : Wf S) (hc : cellNo S.length c = true) {k : Nat} (hk : l[k]? = some c) : (gcV S.length (.ref (S.length + k)) (S ++ l)).sat QD = QD (.ref S.length) (S ++ [c]) := by
  unfold gcV
  rw [List.take_left' rfl, if_pos (show S.all (cellNo S.length) = true from hw), if_neg (by simp [noRef])]
  simp only [List.getElem?_append_right (Nat.le_add_right _ _), Nat.add_sub_cancel_left, hk]
  rw [if_pos ⟨Nat.le_add_right _ _, hc⟩]; rfl
/-! equality -/
def eqQ (f : Bool → Bool) (o u : Option PyData) (Q : Bool → Prop) : Prop := match o, u with
  | some p, some q => (SeqAt.shaped p = true ∧ SeqAt.shaped q = true) ∧ Q (f (PyData.eqv p q))
  | _, _ => False
theorem eqQ_some (f : Bool → Bool) (p q : PyData) (Q : Bool → Prop) : eqQ f (some p) (some q) Q = ((SeqAt.shaped p = true ∧ SeqAt.shaped q = true) ∧ Q (f (PyData.eqv p q))) := rfl
theorem eqG_sat (f : Bool → Bool) (d e : D) : (eqG f d e S).sat QD = eqQ f (toPy S 40 d) (toPy S 40 e) fun b => QD (.bl b) S := by
  unfold eqG eqQ
  cases toPy S 40 d <;> cases toPy S 40 e <;> try rfl
  simp only [r_ite, r_stuck, if_false', r_ok]
theorem v_eqS (x y : List Nat) : (vEq (.str x) (.str y) S).sat QD = QD (.bl (x == y)) S := rfl
theorem v_neS (x y : List Nat) : (vNe (.str x) (.str y) S).sat QD = QD (.bl (!(x == y))) S := rfl
theorem shI (i : Int) : SeqAt.shaped (.int i) = true := by simp [SeqAt.shaped, PyData.canLay0, PyData.depth]
theorem v_eqI (i j : Int) : (vEq (.int i) (.int j) S).sat QD = QD (.bl (i == j)) S := by
  show (eqG id (.int i) (.int j) S).sat QD = _
  rw [eqG_sat]; simp only [toPy, eqQ_some, shI, PyData.eqv, id, true_and]
theorem v_neI (i j : Int) : (vNe (.int i) (.int j) S).sat QD = QD (.bl (!(i == j))) S := by
  show (eqG not (.int i) (.int j) S).sat QD = _
  rw [eqG_sat]; simp only [toPy, eqQ_some, shI, PyData.eqv, true_and]
theorem v_eqT (x y : List D) : (vEq (.tup x) (.tup y) S).sat QD = eqQ id (toPy S 40 (.tup x)) (toPy S 40 (.tup y)) fun b => QD (.bl b) S := eqG_sat _ _ _
theorem v_neT (x y : List D) : (vNe (.tup x) (.tup y) S).sat QD = eqQ not (toPy S 40 (.tup x)) (toPy S 40 (.tup y)) fun b => QD (.bl b) S := eqG_sat _ _ _
theorem v_eqR (x y : Nat) : (vEq (.ref x) (.ref y) S).sat QD = eqQ id (toPy S 40 (.ref x)) (toPy S 40 (.ref y)) fun b => QD (.bl b) S := eqG_sat _ _ _
theorem v_neR (x y : Nat) : (vNe (.ref x) (.ref y) S).sat QD = eqQ not (toPy S 40 (.ref x)) (toPy S 40 (.ref y)) fun b => QD (.bl b) S := eqG_sat _ _ _
theorem py_int (n : Nat) (i : Int) : toPy S (n + 1) (.int i) = some (.int i) := rfl
theorem py_str (n : Nat) (x : List Nat) : toPy S (n + 1) (.str x) = some (.str ⟨x.toArray⟩) := rfl
theorem py_bl (n : Nat) (b : Bool) : toPy S (n + 1) (.bl b) = some (.bool b) := rfl
theorem py_non (n : Nat) : toPy S (n + 1) .non = some .none := rfl
theorem py_tup (n : Nat) (ds : List D) : toPy S (n + 1) (.tup ds) = (mapO (toPy S n) ds).map .tuple := rfl
theorem py_ref (n k : Nat) {ds : List D} (h : S[k]? = some (.lst ds)) : toPy S (n + 1) (.ref k) = (mapO (toPy S n) ds).map .list := by simp only [toPy, h]
theorem mapO_nil {α β : Type} (f : α → Option β) : mapO f [] = some [] := rfl
theorem mapO_cons {α β : Type} (f : α → Option β) (a : α) (as : List α) (b : β) (bs : List β) (h : f a = some b) (h' : mapO f as = some bs) : mapO f (a :: as) = some (b :: bs) := by simp only [mapO, h, h']
mutual
theorem eqv_self : ∀ p : PyData, p.hasDict = false → PyData.eqv p p = true
  | .none, _ => by simp [PyData.eqv]
  | .bool _, _ => by simp [PyData.eqv]
  | .int _, _ => by simp [PyData.eqv]
  | .str _, _ => by simp [PyData.eqv]
  | .list xs, h => by rw [PyData.eqv]; exact eqvAll_self xs (by simpa [PyData.hasDict] using h)
  | .tuple xs, h => by rw [PyData.eqv]; exact eqvAll_self xs (by simpa [PyData.hasDict] using h)
  | .dict _, h => by simp [PyData.hasDict] at h
theorem eqvAll_self : ∀ ps : List PyData, PyData.hasDictAll ps = false → PyData.eqvAll ps ps = true
  | [], _ => by simp [PyData.eqvAll]
  | p :: ps, h => by
    simp only [PyData.hasDictAll, Bool.or_eq_false_iff] at h
    rw [PyData.eqvAll, eqv_self p h.1, eqvAll_self ps h.2]; rfl
end
/-! repr -/
theorem v_repr_of {d : D} {p : PyData} (h : toPy S 40 d = some p) (ok : okShow p) : (vRepr [d] S).sat QD = QD (.str (showD p)) S := by simp only [vRepr, h, if_pos ok]; rfl
/-! in -/
theorem v_inC (c : Nat) (z : List Nat) : (vIn (.str [c]) (.str z) S).sat QD = QD (.bl (decide (c ∈ z))) S := rfl
theorem v_ninC (c : Nat) (z : List Nat) : (vNotIn (.str [c]) (.str z) S).sat QD = QD (.bl (!decide (c ∈ z))) S := rfl
/-! isinstance -/
theorem v_isi (b : String) (d : D) : (vIsi b d S).sat QD = optQ ((tyN d S).bind fun a => kitB a b) fun r => QD (.bl r) S := by
  unfold vIsi; cases (tyN d S).bind fun a => kitB a b <;> rfl
/-! loops -/
theorem x_for (f : EnvD → Sto → R Src) (g : Tg) (b : Sm) : (sFor f g b env S).sat N U B C = (f env S).sat fun s S1 => (sForN s g b s.len 0 env S1).sat N U B C := by unfold sFor; rw [r_fl]
theorem i_of (a : E) {Q : Src → Sto → Prop} : (iOf a env S).sat Q = (a env S).sat fun d S1 => (srcOf d S1).sat Q := by unfold iOf; rw [r_bind]
theorem i_arg (g : List D → Sto → R Src) (a : As) {Q : Src → Sto → Prop} : (iArg g a env S).sat Q = (a env S).sat fun d S1 => (g d S1).sat Q := by unfold iArg; rw [r_bind]
theorem s_tup (ds : List D) {Q : Src → Sto → Prop} : (srcOf (.tup ds) S).sat Q = Q (cSeq ds) S := rfl
theorem s_frl (ds : List D) {Q : Src → Sto → Prop} : (srcOf (.frl ds) S).sat Q = Q (cSeq ds) S := rfl
theorem s_str (x : List Nat) {Q : Src → Sto → Prop} : (srcOf (.str x) S).sat Q = Q (cSeq (x.map fun c => .str [c])) S := rfl
theorem s_ref (n : Nat) {Q : Src → Sto → Prop} : (srcOf (.ref n) S).sat Q = cellQ S[n]? fun ds => Q (cCell n ds.length) S := by
  unfold srcOf cellQ
  simp only
  rcases S[n]? with _ | ⟨ds | kvs⟩ <;> rfl
theorem s_r1 (j : Int) {Q : Src → Sto → Prop} : (rng1 [.int j] S).sat Q = (B62 j = true ∧ Q (cSeq (intsD 0 1 j.toNat)) S) := by simp only [rng1, r_ite, r_stuck, if_false', r_ok]
theorem s_r2 (i j : Int) {Q : Src → Sto → Prop} : (rng2 [.int i, .int j] S).sat Q = ((B62 i = true ∧ B62 j = true) ∧ Q (cSeq (intsD i 1 (j - i).toNat)) S) := by simp only [rng2, r_ite, r_stuck, if_false', r_ok]
theorem intsD_get {lo c : Int} {n i : Nat} {d : D} (h : (intsD lo c n)[i]? = some d) : i < n ∧ d = .int (lo + i * c) := by
  unfold intsD at h
  rw [List.getElem?_map] at h
  by_cases hi : i < n
  · rw [List.getElem?_range hi] at h; exact ⟨hi, (Option.some.inj h).symm⟩
  · rw [List.getElem?_eq_none (by simpa using hi)] at h; cases h
theorem intsD_len (lo c : Int) (n : Nat) : (intsD lo c n).length = n := by simp [intsD]
theorem forN_sat {s : Src} {ds : List D} {g : Tg} {b : Sm} (I : Nat → EnvD → Sto → Prop) (hg : ∀ i env S, I i env S → s.get i S = some ds[i]?)
    (hs : ∀ i d env S, ds[i]? = some d → I i env S → (g d env S).sat fun e1 S1 => (b e1 S1).sat (I (i + 1)) U N (I (i + 1)))
    (hf : ∀ env S, I ds.length env S → N env S) : ∀ (k i : Nat) (env : EnvD) (S : Sto), i + k = ds.length → I i env S → (sForN s g b k i env S).sat N U B C
  | 0, i, env, S, hk, h0 => by
    unfold sForN
    rw [hg i env S h0, List.getElem?_eq_none (by omega)]
    exact hf env S (by rw [← hk]; exact h0)
  | k + 1, i, env, S, hk, h0 => by
    unfold sForN
    rw [hg i env S h0, List.getElem?_eq_getElem (show i < ds.length by omega)]
    simp only [r_fl0]
    refine sat_mono (hs i _ env S (List.getElem?_eq_getElem (show i < ds.length by omega)) h0) fun e1 S1 q => ?_
    revert q
    cases b e1 S1 with
    | nx e2 S2 => exact fun q => forN_sat I hg hs hf k (i + 1) e2 S2 (by omega) q
    | ct e2 S2 => exact fun q => forN_sat I hg hs hf k (i + 1) e2 S2 (by omega) q
    | bk e2 S2 => exact fun q => q
    | rt e2 S2 => exact fun q => q
    | exc _ _ _ => exact fun q => q
    | stuck => exact fun q => q
theorem for_seq {ds : List D} {g : Tg} {b : Sm} (I : Nat → EnvD → Sto → Prop) (h0 : I 0 env S)
    (hs : ∀ i d env S, ds[i]? = some d → I i env S → (g d env S).sat fun e1 S1 => (b e1 S1).sat (I (i + 1)) U N (I (i + 1)))
    (hf : ∀ env S, I ds.length env S → N env S) : (sForN (cSeq ds) g b (cSeq ds).len 0 env S).sat N U B C :=
  forN_sat I (fun _ _ _ _ => rfl) hs hf ds.length 0 env S (Nat.zero_add _) h0
theorem for_cell {n k : Nat} {ds : List D} {g : Tg} {b : Sm} (hk : k = ds.length) (I : Nat → EnvD → Sto → Prop) (hc : ∀ i env S, I i env S → S[n]? = some (.lst ds)) (h0 : I 0 env S)
    (hs : ∀ i d env S, ds[i]? = some d → I i env S → (g d env S).sat fun e1 S1 => (b e1 S1).sat (I (i + 1)) U N (I (i + 1)))
    (hf : ∀ env S, I ds.length env S → N env S) : (sForN (cCell n k) g b (cCell n k).len 0 env S).sat N U B C :=
  forN_sat I (fun i e T h => by show (match T[n]? with | some (.lst ds) => some ds[i]? | _ => none) = _; rw [hc i e T h]) hs hf _ 0 env S (by rw [Nat.zero_add]; exact hk) h0
theorem whN_sat {c : T} {b : Sm} (I : EnvD → Sto → Prop) (m : EnvD → Sto → Nat)
    (hs : ∀ env S, I env S → (c env S).sat fun k S1 => if k = true then (b env S1).sat (fun e2 S2 => I e2 S2 ∧ m e2 S2 < m env S) U N (fun e2 S2 => I e2 S2 ∧ m e2 S2 < m env S) else N env S1) :
    ∀ (k : Nat) (env : EnvD) (S : Sto), m env S < k → I env S → (sWhN c b k env S).sat N U B C
  | 0, env, S, hk, h0 => absurd hk (Nat.not_lt_zero _)
  | k + 1, env, S, hk, h0 => by
    unfold sWhN
    simp only [r_fl]
    refine sat_mono (hs env S h0) fun q S1 h => ?_
    cases q with
    | false => exact h
    | true =>
      revert h
      simp only [if_true]
      cases b env S1 with
      | nx e2 S2 => exact fun q => whN_sat I m hs k e2 S2 (by have := q.2; omega) q.1
      | ct e2 S2 => exact fun q => whN_sat I m hs k e2 S2 (by have := q.2; omega) q.1
      | bk e2 S2 => exact fun q => q
      | rt e2 S2 => exact fun q => q
      | exc _ _ _ => exact fun q => q
      | stuck => exact fun q => q
theorem wh_sat {c : T} {b : Sm} (I : EnvD → Sto → Prop) (m : EnvD → Sto → Nat) (h0 : I env S) (hm : m env S < WF)
    (hs : ∀ env S, I env S → (c env S).sat fun k S1 => if k = true then (b env S1).sat (fun e2 S2 => I e2 S2 ∧ m e2 S2 < m env S) U N (fun e2 S2 => I e2 S2 ∧ m e2 S2 < m env S) else N env S1) :
    (sWh c b env S).sat N U B C := whN_sat I m hs WF env S hm h0
/-! comprehensions -/
theorem e_lc (f : EnvD → Sto → R Src) (g : Tg) (t : T) (e : E) (vs : List Nat) : (eLc f g t e vs env S).sat QD = (f env S).sat fun s S1 => ((lcN s g t e (wipeD env vs) s.len 0 [] S1).nox).sat fun ds S2 => QD (.ref S2.length) (S2 ++ [.lst ds]) := by
  unfold eLc mkLst; simp only [r_bind, r_ok]
theorem r_nox {r : R α} : r.nox.sat Q = r.sat Q := by cases r <;> rfl
theorem lcN_sat {s : Src} {ds : List D} {g : Tg} {t : T} {e : E} (J : Nat → List D → Sto → Prop) {Q : List D → Sto → Prop} (hg : ∀ i acc S, J i acc S → s.get i S = some ds[i]?)
    (hs : ∀ i d acc S, ds[i]? = some d → J i acc S → acc.length ≤ i → (g d env S).sat fun e1 S1 => (t e1 S1).sat fun b S2 => if b = true then (e e1 S2).sat fun y S3 => J (i + 1) (acc ++ [y]) S3 else J (i + 1) acc S2)
    (hl : ds.length ≤ LINE) (hf : ∀ acc S, J ds.length acc S → Q acc S) : ∀ (k i : Nat) (acc : List D) (S : Sto), i + k = ds.length → acc.length ≤ i → J i acc S → (lcN s g t e env k i acc S).sat Q
  | 0, i, acc, S, hk, ha, h0 => by
    unfold lcN
    rw [hg i acc S h0, List.getElem?_eq_none (by omega)]
    exact hf acc S (by rw [← hk]; exact h0)
  | k + 1, i, acc, S, hk, ha, h0 => by
    unfold lcN
    rw [hg i acc S h0, List.getElem?_eq_getElem (show i < ds.length by omega)]
    simp only [r_bind]
    refine sat_mono (hs i _ acc S (List.getElem?_eq_getElem (show i < ds.length by omega)) h0 ha) fun e1 S1 q => ?_
    refine sat_mono q fun b S2 q => ?_
    cases b with
    | true =>
      simp only [if_true, r_bind] at q ⊢
      refine sat_mono q fun y S3 q => ?_
      rw [if_pos (show acc.length < LINE by omega)]
      exact lcN_sat J hg hs hl hf k (i + 1) _ S3 (by omega) (by simp; omega) q
    | false => exact lcN_sat J hg hs hl hf k (i + 1) _ S2 (by omega) (by omega) q
/-- the elements of a fixed row, the store kept -/
theorem lc_map {ds : List D} {g : Tg} {e : E} (F : D → D) {Q : List D → Sto → Prop} (hl : ds.length ≤ LINE)
    (hs : ∀ d, d ∈ ds → (g d env S).sat fun e1 S1 => (e e1 S1).sat fun y S3 => y = F d ∧ S3 = S) (hq : Q (ds.map F) S) : (lcN (cSeq ds) g tYesD e env (cSeq ds).len 0 [] S).sat Q := by
  refine lcN_sat (ds := ds) (fun i acc T => acc = (ds.take i).map F ∧ T = S) (fun _ _ _ _ => rfl) ?_ hl ?_ _ 0 [] S (Nat.zero_add _) (Nat.le_refl _) ⟨rfl, rfl⟩
  · rintro i d acc T hd ⟨rfl, rfl⟩ _
    refine sat_mono (hs d (List.mem_of_getElem? hd)) fun e1 S1 q => ?_
    simp only [t_yes, if_true]
    refine sat_mono q ?_
    rintro y S3 ⟨rfl, rfl⟩
    refine ⟨?_, rfl⟩
    have hi : i < ds.length := by
      rcases Nat.lt_or_ge i ds.length with z | z
      · exact z
      · rw [List.getElem?_eq_none z] at hd; cases hd
    rw [List.take_succ, List.map_append, hd]; rfl
  · rintro acc T ⟨rfl, rfl⟩
    rw [List.take_length]; exact hq
theorem v_allR (n : Nat) : (vAll [.ref n] S).sat QD = cellQ S[n]? fun ds => optQ (blsOf ds) fun bs => QD (.bl (bs.all id)) S := by
  simp only [vAll, lstOf]
  rcases S[n]? with _ | ⟨ds | kvs⟩
  · rfl
  · simp only [cellQ_lst, Option.bind_some]; cases blsOf ds <;> rfl
  · rfl
theorem v_anyR (n : Nat) : (vAny [.ref n] S).sat QD = cellQ S[n]? fun ds => optQ (blsOf ds) fun bs => QD (.bl (bs.any id)) S := by
  simp only [vAny, lstOf]
  rcases S[n]? with _ | ⟨ds | kvs⟩
  · rfl
  · simp only [cellQ_lst, Option.bind_some]; cases blsOf ds <;> rfl
  · rfl
theorem v_sumR (n : Nat) : (vSum [.ref n] S).sat QD = cellQ S[n]? fun ds => optQ (intsOf ds) fun bs => QD (.int bs.sum) S := by
  simp only [vSum, lstOf]
  rcases S[n]? with _ | ⟨ds | kvs⟩
  · rfl
  · simp only [cellQ_lst, Option.bind_some]; cases intsOf ds <;> rfl
  · rfl
theorem bls_map {α : Type} (f : α → Bool) (xs : List α) : blsOf (xs.map fun x => D.bl (f x)) = some (xs.map f) := by
  induction xs with
  | nil => rfl
  | cons x xs ih => simp only [List.map_cons, blsOf, ih]; rfl
theorem ints_map {α : Type} (f : α → Int) (xs : List α) : intsOf (xs.map fun x => D.int (f x)) = some (xs.map f) := by
  induction xs with
  | nil => rfl
  | cons x xs ih => simp only [List.map_cons, intsOf, ih]; rfl
end
mutual
theorem noRef_mono {n m : Nat} (h : n ≤ m) : ∀ d : D, noRef n d = true → noRef m d = true
  | .non, _ => rfl
  | .bl _, _ => rfl
  | .int _, _ => rfl
  | .str _, _ => rfl
  | .fn _, _ => rfl
  | .ref k, q => by simp only [noRef, decide_eq_true_eq] at q ⊢; omega
  | .tup ds, q => by rw [noRef] at q ⊢; exact noRefs_mono h ds q
  | .frl ds, q => by rw [noRef] at q ⊢; exact noRefs_mono h ds q
theorem noRefs_mono {n m : Nat} (h : n ≤ m) : ∀ ds : List D, noRef.noRefs n ds = true → noRef.noRefs m ds = true
  | [], _ => rfl
  | d :: ds, q => by
    rw [noRef.noRefs, Bool.and_eq_true] at q ⊢
    exact ⟨noRef_mono h d q.1, noRefs_mono h ds q.2⟩
end
theorem noRefK_mono {n m : Nat} (h : n ≤ m) : ∀ ds : List (Key × D), noRefK n ds = true → noRefK m ds = true
  | [], _ => rfl
  | (k, d) :: ds, q => by
    rw [noRefK, Bool.and_eq_true] at q ⊢
    exact ⟨noRef_mono h d q.1, noRefK_mono h ds q.2⟩
theorem cellNo_mono {n m : Nat} (h : n ≤ m) : ∀ c : Cell, cellNo n c = true → cellNo m c = true
  | .lst ds, q => noRefs_mono h ds q
  | .dk kvs, q => noRefK_mono h kvs q
theorem lt_of_get {S : Sto} {p : Nat} {c : Cell} (h : S[p]? = some c) : p < S.length := by
  rcases Nat.lt_or_ge p S.length with z | z
  · exact z
  · rw [List.getElem?_eq_none z] at h; cases h
/-- the pool's cell: three ints, and cells alone that are closed -/
def Pl (S : Sto) (p : Nat) : Prop := ∃ a b c, S[p]? = some (.lst [.int a, .int b, .int c])
/-- S with another pool -/
def Pn (S : Sto) (p : Nat) (T : Sto) : Prop := ∃ a b c, T = S.set p (.lst [.int a, .int b, .int c])
theorem Wf.set {S : Sto} {p : Nat} {a b c : Int} (h : Wf S) : Wf (S.set p (.lst [.int a, .int b, .int c])) := by
  unfold Wf at h ⊢
  rw [List.length_set, List.all_eq_true] at *
  intro x hx
  rcases List.mem_or_eq_of_mem_set hx with z | z
  · exact h x z
  · subst z; rfl
theorem Pn.wf {S T : Sto} {p : Nat} (h : Pn S p T) (w : Wf S) : Wf T := by obtain ⟨a, b, c, rfl⟩ := h; exact w.set
theorem Pn.pl {S T : Sto} {p : Nat} (h : Pn S p T) (w : Pl S p) : Pl T p := by
  obtain ⟨a, b, c, rfl⟩ := h
  obtain ⟨a', b', c', w⟩ := w
  exact ⟨a, b, c, set_at (lt_of_get w) _⟩
theorem Pn.len {S T : Sto} {p : Nat} (h : Pn S p T) : T.length = S.length := by obtain ⟨a, b, c, rfl⟩ := h; simp
theorem Pn.trans {S T U : Sto} {p : Nat} (h : Pn S p T) (k : Pn T p U) : Pn S p U := by
  obtain ⟨a, b, c, rfl⟩ := h
  obtain ⟨a', b', c', rfl⟩ := k
  exact ⟨a', b', c', by rw [List.set_set]⟩
theorem Pn.self {S : Sto} {p : Nat} (w : Pl S p) : Pn S p S := by
  obtain ⟨a, b, c, w⟩ := w
  refine ⟨a, b, c, ?_⟩
  have h := lt_of_get w
  rw [List.getElem?_eq_getElem h] at w
  have e := Option.some.inj w
  rw [← e, List.set_getElem_self]
theorem Pn.ne {S T : Sto} {p q : Nat} (h : Pn S p T) (hq : p ≠ q) : T[q]? = S[q]? := by
  obtain ⟨a, b, c, rfl⟩ := h
  exact List.getElem?_set_ne hq
theorem gc_set {S T : Sto} {d : D} {Q : D → Sto → Prop} (h : T.length = S.length) : (gcV S.length d T).sat Q = Q d T := by rw [← h]; exact gc_selfS d
/-- a cell more, and the pool gone on -/
theorem Pn.app {S T : Sto} {p : Nat} {l : Sto} (hp : p < S.length) (h : Pn (S ++ l) p T) : ∃ U, Pn S p U ∧ T = U ++ l := by
  obtain ⟨a, b, c, rfl⟩ := h
  exact ⟨_, ⟨a, b, c, rfl⟩, set_app hp _ _⟩
theorem Pl.app {S : Sto} {p : Nat} (w : Pl S p) (l : Sto) : Pl (S ++ l) p := by
  obtain ⟨a, b, c, w⟩ := w
  exact ⟨a, b, c, (app_lt (lt_of_get w) l).trans w⟩
theorem Pl.lt {S : Sto} {p : Nat} (w : Pl S p) : p < S.length := by
  obtain ⟨a, b, c, w⟩ := w
  exact lt_of_get w
theorem Wf.app {S : Sto} (h : Wf S) {l : Sto} (hl : l.all (cellNo S.length) = true) : Wf (S ++ l) := by
  unfold Wf at h ⊢
  rw [List.all_append, Bool.and_eq_true, List.length_append]
  rw [List.all_eq_true] at h hl ⊢
  rw [List.all_eq_true]
  exact ⟨fun x hx => cellNo_mono (Nat.le_add_right _ _) _ (h x hx), fun x hx => cellNo_mono (Nat.le_add_right _ _) _ (hl x hx)⟩
theorem cutD_map {α β : Type} (f : α → β) (xs : List α) (l u : Option Int) : cutD (xs.map f) l u = (cutD xs l u).map f := by
  unfold cutD; rw [List.length_map, List.map_take, List.map_drop]
theorem ints_int (xs : List Int) : intsOf (xs.map D.int) = some xs := by
  have := ints_map id xs
  rw [List.map_id] at this; exact this
theorem gc_appI {S l : Sto} {i : Int} {Q : D → Sto → Prop} (hw : Wf S) : (gcV S.length (.int i) (S ++ l)).sat Q = Q (.int i) S := gc_app hw rfl
theorem gc_appB {S l : Sto} {i : Bool} {Q : D → Sto → Prop} (hw : Wf S) : (gcV S.length (.bl i) (S ++ l)).sat Q = Q (.bl i) S := gc_app hw rfl
theorem gc_appS {S l : Sto} {i : List Nat} {Q : D → Sto → Prop} (hw : Wf S) : (gcV S.length (.str i) (S ++ l)).sat Q = Q (.str i) S := gc_app hw rfl
theorem gc_appN {S l : Sto} {Q : D → Sto → Prop} (hw : Wf S) : (gcV S.length .non (S ++ l)).sat Q = Q .non S := gc_app hw rfl
theorem i_int (i : Int) {S : Sto} {Q : Int → Sto → Prop} : (intR (.int i) S).sat Q = Q i S := rfl
theorem gc_new0 {S l : Sto} {c : Cell} (hw : Wf S) (hc : cellNo S.length c = true) {Q : D → Sto → Prop} : (gcV S.length (.ref S.length) (S ++ c :: l)).sat Q = Q (.ref S.length) (S ++ [c]) := gc_new (k := 0) hw hc rfl
theorem mul_l {i j : Int} (h1 : -(2 ^ 64) < i) (h2 : i < 2 ^ 64) : mulOk i j := .inr (.inl ⟨h1, h2⟩)
theorem mul_r {i j : Int} (h1 : -(2 ^ 64) < j) (h2 : j < 2 ^ 64) : mulOk i j := .inr (.inr ⟨h1, h2⟩)
theorem s_starT (ds : List D) (r : As) {env : EnvD} {S : Sto} {Q : List D → Sto → Prop} : (starR (.tup ds) r env S).sat Q = (r env S).sat fun xs S2 => Q (ds ++ xs) S2 := by
  show ((r env S).bind fun xs S2 => R.ok (ds ++ xs) S2).sat Q = _
  rw [r_bind]; rfl
theorem v_isiS (x : List Nat) {S : Sto} {Q : D → Sto → Prop} : (vIsi "str" (.str x) S).sat Q = Q (.bl true) S := rfl
theorem v_isiSI (x : List Nat) {S : Sto} {Q : D → Sto → Prop} : (vIsi "int" (.str x) S).sat Q = Q (.bl false) S := rfl
theorem v_isiI (x : Int) {S : Sto} {Q : D → Sto → Prop} : (vIsi "int" (.int x) S).sat Q = Q (.bl true) S := rfl
theorem v_isiIB (x : Int) {S : Sto} {Q : D → Sto → Prop} : (vIsi "bool" (.int x) S).sat Q = Q (.bl false) S := rfl
theorem v_isiIS (x : Int) {S : Sto} {Q : D → Sto → Prop} : (vIsi "str" (.int x) S).sat Q = Q (.bl false) S := rfl
theorem v_isiIT (x : Int) {S : Sto} {Q : D → Sto → Prop} : (vIsi "tuple" (.int x) S).sat Q = Q (.bl false) S := rfl
theorem v_isiIL (x : Int) {S : Sto} {Q : D → Sto → Prop} : (vIsi "list" (.int x) S).sat Q = Q (.bl false) S := rfl
theorem v_isiT (x : List D) {S : Sto} {Q : D → Sto → Prop} : (vIsi "tuple" (.tup x) S).sat Q = Q (.bl true) S := rfl
theorem v_isiTI (x : List D) {S : Sto} {Q : D → Sto → Prop} : (vIsi "int" (.tup x) S).sat Q = Q (.bl false) S := rfl
theorem v_isiTL (x : List D) {S : Sto} {Q : D → Sto → Prop} : (vIsi "list" (.tup x) S).sat Q = Q (.bl false) S := rfl
theorem v_isiR (n : Nat) {S : Sto} {Q : D → Sto → Prop} {ds : List D} (h : S[n]? = some (.lst ds)) : (vIsi "list" (.ref n) S).sat Q = Q (.bl true) S := by
  rw [v_isi]; simp only [tyN, h]; rfl
theorem v_isiRT (n : Nat) {S : Sto} {Q : D → Sto → Prop} {ds : List D} (h : S[n]? = some (.lst ds)) : (vIsi "tuple" (.ref n) S).sat Q = Q (.bl false) S := by
  rw [v_isi]; simp only [tyN, h]; rfl
theorem lc_mapx {α : Type} {xs : List α} {f : α → D} {g : Tg} {e : E} {env : EnvD} {S : Sto} (F : α → D) {Q : List D → Sto → Prop} (hl : xs.length ≤ LINE)
    (hs : ∀ x, x ∈ xs → (g (f x) env S).sat fun e1 S1 => (e e1 S1).sat fun y S3 => y = F x ∧ S3 = S) (hq : Q (xs.map F) S) : (lcN (cSeq (xs.map f)) g tYesD e env (cSeq (xs.map f)).len 0 [] S).sat Q := by
  refine lcN_sat (ds := xs.map f) (fun i acc T => acc = (xs.take i).map F ∧ T = S) (fun _ _ _ _ => rfl) ?_ (by simpa using hl) ?_ _ 0 [] S (Nat.zero_add _) (Nat.le_refl _) ⟨rfl, rfl⟩
  · rintro i d acc T hd ⟨rfl, rfl⟩ _
    rw [List.getElem?_map] at hd
    cases hx : xs[i]? with
    | none => rw [hx] at hd; cases hd
    | some x =>
      rw [hx] at hd; cases hd
      refine sat_mono (hs x (List.mem_of_getElem? hx)) fun e1 S1 q => ?_
      simp only [t_yes, if_true]
      refine sat_mono q ?_
      rintro y S3 ⟨rfl, rfl⟩
      refine ⟨?_, rfl⟩
      rw [List.take_succ, List.map_append, hx]; rfl
  · rintro acc T ⟨rfl, rfl⟩
    rw [List.length_map, List.take_length]; exact hq
/-- a loop over a fixed row told by its items -/
theorem for_map {α : Type} {xs : List α} {f : α → D} {g : Tg} {b : Sm} {env : EnvD} {S : Sto} {N : EnvD → Sto → Prop} {U : D → Sto → Prop} {B C : EnvD → Sto → Prop} (I : Nat → EnvD → Sto → Prop) (h0 : I 0 env S)
    (hs : ∀ i x env S, xs[i]? = some x → I i env S → (g (f x) env S).sat fun e1 S1 => (b e1 S1).sat (I (i + 1)) U N (I (i + 1)))
    (hf : ∀ env S, I xs.length env S → N env S) : (sForN (cSeq (xs.map f)) g b (cSeq (xs.map f)).len 0 env S).sat N U B C := by
  refine for_seq I h0 ?_ fun env S h => hf env S (by rw [List.length_map] at h; exact h)
  intro i d env S hd h
  rw [List.getElem?_map] at hd
  cases hx : xs[i]? with
  | none => rw [hx] at hd; cases hd
  | some x => rw [hx] at hd; cases hd; exact hs i x env S hx h
/-- a loop that does the same at each item -/
theorem for_all {ds : List D} {g : Tg} {b : Sm} {env : EnvD} {S : Sto} {N : EnvD → Sto → Prop} {U : D → Sto → Prop} {B C : EnvD → Sto → Prop} (I : EnvD → Sto → Prop) (h0 : I env S)
    (hs : ∀ d env S, d ∈ ds → I env S → (g d env S).sat fun e1 S1 => (b e1 S1).sat I U N I)
    (hf : ∀ env S, I env S → N env S) : (sForN (cSeq ds) g b (cSeq ds).len 0 env S).sat N U B C :=
  for_seq (fun _ => I) h0 (fun i d env S hd h => hs d env S (List.mem_of_getElem? hd) h) hf
/-- S with another pool, and closed cells behind it -/
def Pg (S : Sto) (p : Nat) (T : Sto) : Prop := ∃ U l, T = U ++ l ∧ Pn S p U ∧ Wf T ∧ Pl S p ∧ Wf S
theorem Pg.self {S : Sto} {p : Nat} (h : Pl S p) (hw : Wf S) : Pg S p S := ⟨S, [], by simp, .self h, hw, h, hw⟩
theorem Pg.wf {S T : Sto} {p : Nat} (h : Pg S p T) : Wf T := by obtain ⟨U, l, _, _, w, _⟩ := h; exact w
theorem Pg.pl {S T : Sto} {p : Nat} (h : Pg S p T) : Pl T p := by
  obtain ⟨U, l, rfl, h, _, k, _⟩ := h
  exact (h.pl k).app l
theorem Pg.pn {S T V : Sto} {p : Nat} (h : Pg S p T) (k : Pn T p V) : Pg S p V := by
  obtain ⟨U, l, rfl, h, w, e, f⟩ := h
  obtain ⟨U', h', rfl⟩ := k.app ((h.pl e).lt)
  exact ⟨U', l, rfl, h.trans h', k.wf w, e, f⟩
theorem Pg.add {S T : Sto} {p : Nat} {l : Sto} (h : Pg S p T) (hc : l.all (cellNo T.length) = true) : Pg S p (T ++ l) := by
  obtain ⟨U, m, rfl, h, w, e, f⟩ := h
  exact ⟨U, m ++ l, by simp, h, w.app hc, e, f⟩
theorem Pg.at_ {S T : Sto} {p q : Nat} {c : Cell} (h : Pg S p T) (hq : p ≠ q) (hc : S[q]? = some c) : T[q]? = some c := by
  obtain ⟨U, l, rfl, h, _⟩ := h
  rw [app_lt (by rw [h.len]; exact lt_of_get hc), h.ne hq, hc]
theorem Pg.gc {S T : Sto} {p : Nat} {d : D} {Q : D → Sto → Prop} (h : Pg S p T) (hd : noRef S.length d = true) (q : ∀ U, Pn S p U → Q d U) : (gcV S.length d T).sat Q := by
  obtain ⟨U, l, rfl, h, w, e, f⟩ := h
  rw [← h.len] at hd ⊢
  rw [gc_app (h.wf f) hd]
  exact q U h
theorem Pg.le {S T : Sto} {p : Nat} (h : Pg S p T) : S.length ≤ T.length := by
  obtain ⟨U, l, rfl, h, _⟩ := h
  rw [List.length_append, h.len]; omega
theorem sIx_neg (n d : Nat) (k : Nat) (h : 0 < k) : HT.sIx n d (some (-(k : Int))) = n - k := by
  show (if (-(k : Int)) < 0 then (-(k : Int) + (n : Int)).toNat else min (-(k : Int)).toNat n) = _
  rw [if_pos (by omega)]; omega
theorem cut_last {α : Type} {w : List α} (h : w ≠ []) : Fz.cutD w (some (-1)) none = [w.getLast h] := by
  have e1 : HT.sIx w.length 0 (some (-1)) = w.length - 1 := sIx_neg w.length 0 1 (by omega)
  have e2 : HT.sIx w.length w.length none = w.length := rfl
  have hlen : 0 < w.length := List.length_pos_iff.mpr h
  unfold Fz.cutD
  rw [e1, e2, show w.length - (w.length - 1) = 1 by omega]
  have e3 : w.drop (w.length - 1) = [w.getLast h] := by
    conv => lhs; rw [← List.dropLast_concat_getLast h]
    rw [List.drop_append_of_le_length (by simp), List.length_append, List.length_dropLast, List.length_singleton]
    rw [show w.length - 1 + 1 - 1 = w.dropLast.length by simp, List.drop_length]; rfl
  rw [e3]; rfl
/-- a closed run's end: nothing is left -/
theorem gc_end {d : D} {T : Sto} {Q : D → Sto → Prop} (hd : noRef 0 d = true) (q : Q d []) : (gcV 0 d T).sat Q := by
  rw [gc_drop (n := 0) rfl hd]; exact q
end Fz

namespace Fz
open PySem PySem.Spec PyProof.Rows L2
/-- how long a repr may be -/
def cst : PyData → Nat
  | .none => 4
  | .bool _ => 5
  | .int i => i.natAbs.log2 + 2
  | .str x => 10 * x.length + 2
  | .list xs => csts xs + 2
  | .tuple xs => csts xs + 3
  | .dict _ => 0
where csts : List PyData → Nat
  | [] => 0
  | x :: xs => cst x + 2 + csts xs
/-- texts of ASCII, no dicts -/
def asc : PyData → Bool
  | .none => true
  | .bool _ => true
  | .int i => decide (i.natAbs.log2 < 1920)
  | .str x => x.cps.all (· < 128)
  | .list xs => ascs xs
  | .tuple xs => ascs xs
  | .dict _ => false
where ascs : List PyData → Bool
  | [] => true
  | x :: xs => asc x && ascs xs
theorem len_int (i : Int) : (PyData.int i).shown.length ≤ i.natAbs.log2 + 2 := by
  have h := int_text_length_le (a := i) (k := i.natAbs.log2 + 1) (by omega) (by omega)
  show (Str.ofString (toString i)).length ≤ _
  rw [PySem.ofString_length]; omega
theorem rc_len (q c : Nat) (h : c < 128) : (Builtin.Str.reprChar q c).length ≤ 4 := by
  have hp : ∀ c : Nat, c < 128 → ((Nat.toDigits 16 c).map Char.toNat).length ≤ 2 := by decide +kernel
  unfold Builtin.Str.reprChar
  have := hp c h
  simp only
  repeat' split
  all_goals first
    | (simp; done)
    | (simp only [List.length_append, List.length_cons, List.length_nil, List.length_replicate]; omega)
    | omega
theorem fold_len (q : Nat) : ∀ (l : List Nat) (n : Nat), (∀ c ∈ l, c < 128) → l.foldl (fun n c => n + (Builtin.Str.reprChar q c).length) n ≤ n + 4 * l.length
  | [], n, _ => by simp
  | c :: l, n, h => by
    have h1 := fold_len q l (n + (Builtin.Str.reprChar q c).length) fun c hc => h c (List.mem_cons_of_mem _ hc)
    have h2 := rc_len q c (h c List.mem_cons_self)
    simp only [List.foldl_cons, List.length_cons] at h1 ⊢
    omega
theorem len_str (x : Str) (h : x.cps.all (· < 128) = true) : (PyData.str x).shown.length ≤ 10 * x.length + 2 := by
  show (reprText x).length ≤ _
  rw [← reprLen_eq, ← Array.foldl_toList]
  have h' : ∀ c ∈ x.cps.toList, c < 128 := by
    intro c hc
    rw [Array.all_eq_true'] at h
    exact of_decide_eq_true (h c (Array.mem_def.mpr hc))
  have := fold_len (reprQuote x) x.cps.toList 2 h'
  have e : x.cps.toList.length = x.length := rfl
  omega
theorem len_join : ∀ ts : List Str, (Str.join ", " ts).length ≤ piled ts
  | [] => Nat.zero_le _
  | t :: ts => by have := join_length_add (t :: ts) (by simp); omega
theorem len_list : ∀ ts : List Str, (listText ts).length ≤ piled ts + 2
  | [] => by decide
  | t :: r => by
    have h := textFrom_length_pos r 1 (("[" : Str) ++ (if (0 : Nat) > 0 then ", " else "" : String) ++ t) (Nat.succ_pos 0)
    have e : ((("[" : Str) ++ (if (0 : Nat) > 0 then ", " else "" : String) ++ t)).length = 1 + t.length := by
      rw [strLen_append, strLen_append]; rfl
    have hX : (listText (t :: r)).length = (textFrom 0 "[" (t :: r)).length + 1 := by
      show (textFrom 0 "[" (t :: r) ++ "]").length = _
      rw [strLen_append]; rfl
    have hY : (textFrom 0 "[" (t :: r)).length = (textFrom 1 (("[" : Str) ++ (if (0 : Nat) > 0 then ", " else "" : String) ++ t) r).length := rfl
    rw [hX, hY, h, e, piled_cons]; omega
theorem len_tuple (ts : List Str) : (tupleText ts).length ≤ piled ts + 3 := by
  unfold tupleText
  rw [strLen_append, strLen_append]
  have e1 : ((("(" : String) : Str)).length = 1 := rfl
  have e3 : (((if ts.length == 1 then ",)" else ")" : String) : Str)).length ≤ 2 := by split <;> decide
  have := len_join ts
  omega
mutual
theorem shown_le : ∀ p : PyData, asc p = true → p.shown.length ≤ cst p
  | .none, _ => by decide
  | .bool b, _ => by cases b <;> decide
  | .int i, _ => len_int i
  | .str x, h => len_str x h
  | .list xs, h => by
    have h1 := len_list (PyData.shownAll xs)
    have h2 := showns_le xs h
    show (listText (PyData.shownAll xs)).length ≤ cst.csts xs + 2
    omega
  | .tuple xs, h => by
    have h1 := len_tuple (PyData.shownAll xs)
    have h2 := showns_le xs h
    show (tupleText (PyData.shownAll xs)).length ≤ cst.csts xs + 3
    omega
  | .dict _, h => by cases h
theorem showns_le : ∀ ps : List PyData, asc.ascs ps = true → piled (PyData.shownAll ps) ≤ cst.csts ps
  | [], _ => Nat.le_refl _
  | p :: ps, h => by
    have h' := Bool.and_eq_true_iff.mp h
    have h1 := shown_le p h'.1
    have h2 := showns_le ps h'.2
    show piled (p.shown :: PyData.shownAll ps) ≤ cst p + 2 + cst.csts ps
    rw [piled_cons]; omega
end
mutual
theorem asc_show : ∀ p : PyData, asc p = true → p.showable = true ∧ p.hasDict = false
  | .none, _ => ⟨rfl, rfl⟩
  | .bool b, _ => ⟨rfl, rfl⟩
  | .int i, h => ⟨h, rfl⟩
  | .str x, h => ⟨rfl, rfl⟩
  | .list xs, h => by have := ascs_show xs h; exact ⟨by rw [PyData.showable]; exact this.1, by rw [PyData.hasDict]; exact this.2⟩
  | .tuple xs, h => by have := ascs_show xs h; exact ⟨by rw [PyData.showable]; exact this.1, by rw [PyData.hasDict]; exact this.2⟩
  | .dict _, h => by cases h
theorem ascs_show : ∀ ps : List PyData, asc.ascs ps = true → PyData.showableAll ps = true ∧ PyData.hasDictAll ps = false
  | [], _ => ⟨rfl, rfl⟩
  | p :: ps, h => by
    have h' := Bool.and_eq_true_iff.mp h
    have h1 := asc_show p h'.1
    have h2 := ascs_show ps h'.2
    exact ⟨by rw [PyData.showableAll, h1.1, h2.1]; rfl, by rw [PyData.hasDictAll, h1.2, h2.2]; rfl⟩
end
theorem okShow_of {p : PyData} (h : asc p = true) (hd : p.depth ≤ 50) (hc : cst p ≤ LINE) : okShow p :=
  ⟨(asc_show p h).1, (asc_show p h).2, hd, Nat.le_trans (shown_le p h) hc⟩
theorem log_lt {i : Int} {k : Nat} (h1 : -(2 ^ k : Nat) < i) (h2 : i < (2 ^ k : Nat)) (hk : 0 < k) : i.natAbs.log2 < k := by
  by_cases h0 : i.natAbs = 0
  · rw [h0]; exact hk
  · rw [Nat.log2_lt h0]
    have : ((2 ^ k : Nat) : Int) = ((2 ^ k : Nat) : Int) := rfl
    omega
theorem lt_WF {n : Nat} (h : n < 2 ^ 2000) : n < WF := by
  unfold WF
  exact Nat.lt_of_lt_of_le h (Nat.pow_le_pow_right (by decide) (by decide))
/-! ### sizes -/
def Bd (n : Nat) (i : Int) : Prop := i.natAbs < 2 ^ n
theorem Bd.add {n : Nat} {i j : Int} (h : Bd n i) (k : Bd n j) : Bd (n + 1) (i + j) := by
  unfold Bd at *
  have e : 2 ^ (n + 1) = 2 * 2 ^ n := by rw [Nat.pow_succ]; omega
  omega
theorem Bd.sub {n : Nat} {i j : Int} (h : Bd n i) (k : Bd n j) : Bd (n + 1) (i - j) := by
  unfold Bd at *
  have e : 2 ^ (n + 1) = 2 * 2 ^ n := by rw [Nat.pow_succ]; omega
  omega
theorem Bd.neg {n : Nat} {i : Int} (h : Bd n i) : Bd n (-i) := by unfold Bd at *; omega
theorem Bd.mul {n m : Nat} {i j : Int} (h : Bd n i) (k : Bd m j) : Bd (n + m) (i * j) := by
  unfold Bd at *
  rw [Int.natAbs_mul, Nat.pow_add]
  exact Nat.mul_lt_mul'' h k
theorem Bd.mono {n m : Nat} {i : Int} (h : Bd n i) (k : n ≤ m) : Bd m i := Nat.lt_of_lt_of_le h (Nat.pow_le_pow_right (by decide) k)
theorem Bd.of_abs {n : Nat} {i j : Int} (h : Bd n i) (k : j.natAbs ≤ i.natAbs) : Bd n j := Nat.lt_of_le_of_lt k h
theorem Bd.log {n : Nat} {i : Int} (h : Bd n i) (hn : 0 < n) : i.natAbs.log2 < n := by
  by_cases h0 : i.natAbs = 0
  · rw [h0]; exact hn
  · rw [Nat.log2_lt h0]; exact h
theorem Bd.ok {n m : Nat} {i j : Int} (h : Bd n i) (k : Bd m j) (hn : 0 < n ∧ 0 < m ∧ n + m < 1000000 := by decide) : mulOk i j := by
  refine .inl ?_
  have h1 := h.log hn.1
  have h2 := k.log hn.2.1
  show i.natAbs.log2 + j.natAbs.log2 < 1000000
  omega
theorem Bd.div {n : Nat} {j : Int} (h : Bd n j) (hp : 0 < j) (hn : 0 < n ∧ n < 9000 := by decide) : divOk j := ⟨hp, Nat.lt_trans (h.log hn.1) hn.2⟩
/-! ### fractions in least parts -/
def gI (a b : Int) : Int := ((Nat.gcd a.natAbs b.natAbs : Nat) : Int)
theorem gI_pos {a b : Int} (h : 0 < b) : 0 < gI a b := by
  have := Nat.gcd_pos_of_pos_right a.natAbs (show 0 < b.natAbs by omega)
  unfold gI; omega
theorem gI_dvd_l (a b : Int) : gI a b ∣ a := by
  unfold gI; exact Int.ofNat_dvd_left.mpr (Nat.gcd_dvd_left _ _)
theorem gI_dvd_r (a b : Int) : gI a b ∣ b := by
  unfold gI; exact Int.ofNat_dvd_left.mpr (Nat.gcd_dvd_right _ _)
def red (a b : Int) : Int × Int := (a / gI a b, b / gI a b)
theorem red_mul {a b : Int} (h : 0 < b) : a = (red a b).1 * gI a b ∧ b = (red a b).2 * gI a b :=
  ⟨(Int.ediv_mul_cancel (gI_dvd_l a b)).symm, (Int.ediv_mul_cancel (gI_dvd_r a b)).symm⟩
theorem red_pos {a b : Int} (h : 0 < b) : 0 < (red a b).2 := by
  have h1 := (red_mul (a := a) h).2
  have h2 := gI_pos (a := a) h
  rcases Int.lt_or_le 0 (red a b).2 with z | z
  · exact z
  · have := Int.mul_le_mul_of_nonneg_right z (Int.le_of_lt h2)
    rw [Int.zero_mul] at this; omega
theorem red_cross {a b : Int} (h : 0 < b) : (red a b).1 * b = a * (red a b).2 := by
  have ⟨h1, h2⟩ := red_mul (a := a) h
  generalize gI a b = g at h1 h2
  generalize red a b = r at h1 h2
  subst h1; subst h2; ac_rfl
theorem red_cop {a b : Int} (h : 0 < b) : Nat.gcd (red a b).1.natAbs (red a b).2.natAbs = 1 := by
  have h2 := gI_pos (a := a) h
  have e1 : (red a b).1.natAbs = a.natAbs / Nat.gcd a.natAbs b.natAbs := by
    show (a / gI a b).natAbs = _; rw [Int.natAbs_ediv_of_dvd (gI_dvd_l a b)]; rfl
  have e2 : (red a b).2.natAbs = b.natAbs / Nat.gcd a.natAbs b.natAbs := by
    show (b / gI a b).natAbs = _; rw [Int.natAbs_ediv_of_dvd (gI_dvd_r a b)]; rfl
  rw [e1, e2]
  exact Nat.gcd_div_gcd_div_gcd_of_pos_right (by omega)
/-- fractions in least parts with the same worth are the same -/
theorem cop_eq {a b c d : Int} (hb : 0 < b) (hd : 0 < d) (h1 : Nat.gcd a.natAbs b.natAbs = 1) (h2 : Nat.gcd c.natAbs d.natAbs = 1) (h : a * d = c * b) : a = c ∧ b = d := by
  have e1 : b.natAbs ∣ d.natAbs := by
    have : b.natAbs ∣ a.natAbs * d.natAbs := by rw [← Int.natAbs_mul, h, Int.natAbs_mul]; exact Nat.dvd_mul_left _ _
    exact Nat.Coprime.dvd_of_dvd_mul_left (show Nat.Coprime b.natAbs a.natAbs from (Nat.gcd_comm _ _).trans h1) this
  have e2 : d.natAbs ∣ b.natAbs := by
    have : d.natAbs ∣ c.natAbs * b.natAbs := by rw [← Int.natAbs_mul, ← h, Int.natAbs_mul]; exact Nat.dvd_mul_left _ _
    exact Nat.Coprime.dvd_of_dvd_mul_left (show Nat.Coprime d.natAbs c.natAbs from (Nat.gcd_comm _ _).trans h2) this
  have e3 := Nat.dvd_antisymm e1 e2
  have e4 : b = d := by omega
  subst e4
  exact ⟨Int.eq_of_mul_eq_mul_right (by omega) h, rfl⟩
theorem red_eq {a b c d : Int} (hb : 0 < b) (hd : 0 < d) (h : a * d = c * b) : red a b = red c d := by
  have p1 := red_pos (a := a) hb
  have p2 := red_pos (a := c) hd
  have x1 := red_cross (a := a) hb
  have x2 := red_cross (a := c) hd
  have key : (red a b).1 * (red c d).2 = (red c d).1 * (red a b).2 := by
    have : ((red a b).1 * (red c d).2) * (b * d) = ((red c d).1 * (red a b).2) * (b * d) := by
      calc ((red a b).1 * (red c d).2) * (b * d) = ((red a b).1 * b) * ((red c d).2 * d) := by ac_rfl
        _ = (a * (red a b).2) * ((red c d).2 * d) := by rw [x1]
        _ = (a * d) * ((red a b).2 * (red c d).2) := by ac_rfl
        _ = (c * b) * ((red a b).2 * (red c d).2) := by rw [h]
        _ = (c * (red c d).2) * ((red a b).2 * b) := by ac_rfl
        _ = ((red c d).1 * d) * ((red a b).2 * b) := by rw [x2]
        _ = ((red c d).1 * (red a b).2) * (b * d) := by ac_rfl
    exact Int.eq_of_mul_eq_mul_right (Int.ne_of_gt (Int.mul_pos hb hd)) this
  have := cop_eq p1 p2 (red_cop hb) (red_cop hd) key
  exact Prod.ext this.1 this.2
theorem red_abs {a b : Int} (h : 0 < b) : (red a b).1.natAbs ≤ a.natAbs ∧ (red a b).2.natAbs ≤ b.natAbs := by
  have h2 := gI_pos (a := a) h
  have ⟨h3, h4⟩ := red_mul (a := a) h
  have g1 : 1 ≤ (gI a b).natAbs := by omega
  constructor
  · conv => rhs; rw [h3]
    rw [Int.natAbs_mul]; exact Nat.le_mul_of_pos_right _ g1
  · conv => rhs; rw [h4]
    rw [Int.natAbs_mul]; exact Nat.le_mul_of_pos_right _ g1
theorem red_bd {a b : Int} {n m : Nat} (h : 0 < b) (ha : Bd n a) (hb : Bd m b) : Bd n (red a b).1 ∧ Bd m (red a b).2 := ⟨ha.of_abs (red_abs h).1, hb.of_abs (red_abs h).2⟩
theorem red_self {a b : Int} (h : Nat.gcd a.natAbs b.natAbs = 1) : red a b = (a, b) := by
  unfold red gI; rw [h]; simp
theorem gI_bd {a b : Int} {m : Nat} (h : 0 < b) (hb : Bd m b) : Bd m (gI a b) := by
  refine hb.of_abs ?_
  have := Nat.gcd_le_right a.natAbs (show 0 < b.natAbs by omega)
  unfold gI; omega
def fr (q : Int × Int) : D := .tup [.int q.1, .int q.2]
theorem red_times {a b c d : Int} (hb : 0 < b) (hd : 0 < d) : red ((red a b).1 * (red c d).1) ((red a b).2 * (red c d).2) = red (a * c) (b * d) := by
  have x1 := red_cross (a := a) hb
  have x2 := red_cross (a := c) hd
  have p1 := red_pos (a := a) hb
  have p2 := red_pos (a := c) hd
  refine red_eq (Int.mul_pos p1 p2) (Int.mul_pos hb hd) ?_
  generalize red a b = r at *
  generalize red c d = s at *
  grind
theorem red_plus {a b c d : Int} (hb : 0 < b) (hd : 0 < d) : red ((red a b).1 * (red c d).2 + (red c d).1 * (red a b).2) ((red a b).2 * (red c d).2) = red (a * d + c * b) (b * d) := by
  have x1 := red_cross (a := a) hb
  have x2 := red_cross (a := c) hd
  have p1 := red_pos (a := a) hb
  have p2 := red_pos (a := c) hd
  refine red_eq (Int.mul_pos p1 p2) (Int.mul_pos hb hd) ?_
  generalize red a b = r at *
  generalize red c d = s at *
  grind
theorem red_less {a b c d : Int} (hb : 0 < b) (hd : 0 < d) : red ((red a b).1 * (red c d).2 - (red c d).1 * (red a b).2) ((red a b).2 * (red c d).2) = red (a * d - c * b) (b * d) := by
  have x1 := red_cross (a := a) hb
  have x2 := red_cross (a := c) hd
  have p1 := red_pos (a := a) hb
  have p2 := red_pos (a := c) hd
  refine red_eq (Int.mul_pos p1 p2) (Int.mul_pos hb hd) ?_
  generalize red a b = r at *
  generalize red c d = s at *
  grind
theorem red_inj {a b d : Int} (hd : 0 < d) (h : red a d = red b d) : a = b := by
  have x1 := red_cross (a := a) hd
  have x2 := red_cross (a := b) hd
  have p2 := red_pos (a := b) hd
  rw [h] at x1
  have : a * (red b d).2 = b * (red b d).2 := x1.symm.trans x2
  exact Int.eq_of_mul_eq_mul_right (by omega) this
/-- a fraction in least parts, both below 2^n -/
def Frq (n : Nat) (q : Int × Int) : Prop := Bd n q.1 ∧ Bd n q.2 ∧ 0 < q.2
theorem red_frq {a b : Int} {n : Nat} (h : 0 < b) (ha : Bd n a) (hb : Bd n b) : Frq n (red a b) := ⟨(red_bd h ha hb).1, (red_bd h ha hb).2, red_pos h⟩
theorem Frq.mono {n m : Nat} {q : Int × Int} (h : Frq n q) (k : n ≤ m) : Frq m q := ⟨h.1.mono k, h.2.1.mono k, h.2.2⟩
/-- a fraction the program takes -/
def Gv (q : Int × Int) : Prop := 0 ≤ q.1 ∧ q.1 ≤ 999 ∧ 1 ≤ q.2 ∧ q.2 ≤ 999 ∧ Nat.gcd q.1.natAbs q.2.natAbs = 1
theorem Gv.frq {q : Int × Int} (h : Gv q) : Frq 10 q := by
  obtain ⟨h1, h2, h3, h4, h5⟩ := h
  exact ⟨by show q.1.natAbs < 1024; omega, by show q.2.natAbs < 1024; omega, by omega⟩
theorem red_gv {a b : Int} (h0 : 0 ≤ a) (h1 : a ≤ 999) (h2 : 1 ≤ b) (h3 : b ≤ 999) : Gv (red a b) := by
  have hp := red_pos (a := a) (show 0 < b by omega)
  have ha := red_abs (a := a) (show 0 < b by omega)
  have hn : 0 ≤ (red a b).1 := Int.ediv_nonneg h0 (Int.le_of_lt (gI_pos (by omega)))
  exact ⟨hn, by omega, by omega, by omega, red_cop (by omega)⟩
theorem sh_fr (q : Int × Int) : SeqAt.shaped (.tuple [.int q.1, .int q.2]) = true := by
  simp [SeqAt.shaped, PyData.canLay0, PyData.canLayAll0, PyData.depth, PyData.depthAll]
theorem sh_2 (a b : Int) : SeqAt.shaped (.tuple [.int a, .int b]) = true := sh_fr (a, b)
theorem v_eqF (x y : Int × Int) {S : Sto} {Q : D → Sto → Prop} : (vEq (fr x) (fr y) S).sat Q = Q (.bl (decide (x = y))) S := by
  show (eqG id (fr x) (fr y) S).sat Q = _
  rw [eqG_sat]
  show eqQ id (some (.tuple [.int x.1, .int x.2])) (some (.tuple [.int y.1, .int y.2])) _ = _
  rw [eqQ_some, sh_fr, sh_fr]
  have e : PyData.eqv (.tuple [.int x.1, .int x.2]) (.tuple [.int y.1, .int y.2]) = decide (x = y) := by
    obtain ⟨a, b⟩ := x; obtain ⟨c, d⟩ := y
    simp [PyData.eqv, PyData.eqvAll]
    rw [Bool.eq_iff_iff]; simp
  simp only [e, id, true_and]
theorem v_neF (x y : Int × Int) {S : Sto} {Q : D → Sto → Prop} : (vNe (fr x) (fr y) S).sat Q = Q (.bl (!decide (x = y))) S := by
  show (eqG not (fr x) (fr y) S).sat Q = _
  rw [eqG_sat]
  show eqQ not (some (.tuple [.int x.1, .int x.2])) (some (.tuple [.int y.1, .int y.2])) _ = _
  rw [eqQ_some, sh_fr, sh_fr]
  have e : PyData.eqv (.tuple [.int x.1, .int x.2]) (.tuple [.int y.1, .int y.2]) = decide (x = y) := by
    obtain ⟨a, b⟩ := x; obtain ⟨c, d⟩ := y
    simp [PyData.eqv, PyData.eqvAll]
    rw [Bool.eq_iff_iff]; simp
  simp only [e, true_and]
theorem fr_mk (a b : Int) : D.tup [.int a, .int b] = fr (a, b) := rfl
theorem v_ixf0 (q : Int × Int) {S : Sto} {Q : D → Sto → Prop} : (vIx (fr q) (.int 0) S).sat Q = Q (.int q.1) S := rfl
theorem v_ixf1 (q : Int × Int) {S : Sto} {Q : D → Sto → Prop} : (vIx (fr q) (.int 1) S).sat Q = Q (.int q.2) S := rfl
theorem v_isif (q : Int × Int) {S : Sto} {Q : D → Sto → Prop} : (vIsi "tuple" (fr q) S).sat Q = Q (.bl true) S := rfl
theorem v_lenf (q : Int × Int) {S : Sto} {Q : D → Sto → Prop} : (vLen [fr q] S).sat Q = Q (.int 2) S := rfl
instance (n : Nat) (i : Int) : Decidable (Bd n i) := by unfold Bd; infer_instance
section
variable {S : Sto} {env : EnvD} {Q : D → Sto → Prop}
def optC (o : Option Cell) (f : List D → Option PyData) : Option PyData := match o with
  | some (.lst ds) => f ds
  | _ => none
theorem optC_lst (ds : List D) (f : List D → Option PyData) : optC (some (.lst ds)) f = f ds := rfl
theorem py_refC (n k : Nat) : toPy S (n + 1) (.ref k) = optC S[k]? fun ds => (mapO (toPy S n) ds).map .list := rfl
theorem v_reprP (d : D) : (vRepr [d] S).sat Q = optQ (toPy S 40 d) fun p => okShow p ∧ Q (.str (showD p)) S := by
  simp only [vRepr]
  cases toPy S 40 d with
  | none => rfl
  | some p => simp only [optQ_some, r_ite, r_stuck, if_false', r_ok]
def pf (q : Int × Int) : PyData := .tuple [.int q.1, .int q.2]
theorem py_fr (n : Nat) (q : Int × Int) : toPy S (n + 2) (fr q) = some (pf q) := rfl
theorem set_atk (l : Sto) (k : Nat) (c : Cell) : (S ++ l).set (S.length + k) c = S ++ l.set k c := by
  rw [List.set_append_right _ _ (Nat.le_add_right _ _), Nat.add_sub_cancel_left]
theorem set_at0 (l : Sto) (c : Cell) : (S ++ l).set S.length c = S ++ l.set 0 c := set_atk l 0 c
theorem e_m (T : String) (g : D → List D → Sto → R D) (a : E) (fs : As) : (eM T g a fs env S).sat Q = (a env S).sat fun o S1 => tyN o S1 = some T ∧ (fs env S1).sat fun xs S2 => (g o xs S2).sat Q := by
  unfold eM; simp only [r_bind, r_ite, r_stuck, if_false']
theorem ty_list (n : Nat) : (tyN (.ref n) S = some "list") = cellQ S[n]? fun _ => True := by
  simp only [tyN]
  rcases S[n]? with _ | ⟨ds | kvs⟩
  · simp [cellQ]
  · simp [cellQ]
  · simp [cellQ]
theorem v_appR (n : Nat) (y : D) : (vApp (.ref n) [y] S).sat Q = cellQ S[n]? fun ds => ds.length < LINE ∧ Q .non (S.set n (.lst (ds ++ [y]))) := by
  simp only [vApp]
  rcases S[n]? with _ | ⟨ds | kvs⟩
  · rfl
  · simp only [cellQ_lst, r_ite, r_stuck, if_false', r_ok]
  · rfl
theorem v_isB (a b : Bool) : (vIsN (.bl a) (.bl b) S).sat Q = Q (.bl (a == b)) S := rfl
theorem v_isNN : (vIsN .non .non S).sat Q = Q (.bl true) S := rfl
theorem v_isNI (i : Int) : (vIsN (.int i) .non S).sat Q = Q (.bl false) S := rfl
theorem v_isNT (i : List D) : (vIsN (.tup i) .non S).sat Q = Q (.bl false) S := rfl
theorem v_isNF (i : Int × Int) : (vIsN (fr i) .non S).sat Q = Q (.bl false) S := rfl
theorem v_isNR (i : Nat) : (vIsN (.ref i) .non S).sat Q = Q (.bl false) S := rfl
theorem v_notNN : (vNotN .non .non S).sat Q = Q (.bl false) S := rfl
theorem v_notNI (i : Int) : (vNotN (.int i) .non S).sat Q = Q (.bl true) S := rfl
theorem v_notNT (i : List D) : (vNotN (.tup i) .non S).sat Q = Q (.bl true) S := rfl
theorem v_notNF (i : Int × Int) : (vNotN (fr i) .non S).sat Q = Q (.bl true) S := rfl
theorem v_notNR (i : Nat) : (vNotN (.ref i) .non S).sat Q = Q (.bl true) S := rfl
theorem nr_fr (n : Nat) (q : Int × Int) : noRef n (fr q) = true := rfl
theorem gc_k {l : Sto} {d : D} {k : Nat} (hw : Wf S) (hl : (l.take k).all (cellNo (S.length + k)) = true) (hk : k ≤ l.length) (hd : noRef (S.length + k) d = true) : (gcV (S.length + k) d (S ++ l)).sat Q = Q d (S ++ l.take k) := by
  have e : (S ++ l).take (S.length + k) = S ++ l.take k := by rw [List.take_append, Nat.add_sub_cancel_left, List.take_of_length_le (Nat.le_add_right _ _)]
  have w : Wf (S ++ l.take k) := by
    unfold Wf
    rw [List.all_append, Bool.and_eq_true, List.length_append, List.length_take, Nat.min_eq_left hk]
    refine ⟨?_, hl⟩
    unfold Wf at hw
    rw [List.all_eq_true] at hw ⊢
    exact fun x hx => cellNo_mono (Nat.le_add_right _ _) _ (hw x hx)
  have hlen : (S ++ l.take k).length = S.length + k := by rw [List.length_append, List.length_take, Nat.min_eq_left hk]
  rw [gc_drop (S' := S ++ l) (by rw [e]; unfold Wf at w; rw [hlen] at w; exact w) hd, e]
theorem gc_kS {l : Sto} {x : List Nat} {k : Nat} (hw : Wf S) (hl : (l.take k).all (cellNo (S.length + k)) = true) (hk : k ≤ l.length) : (gcV (S.length + k) (.str x) (S ++ l)).sat Q = Q (.str x) (S ++ l.take k) := gc_k hw hl hk rfl
theorem gc_kI {l : Sto} {x : Int} {k : Nat} (hw : Wf S) (hl : (l.take k).all (cellNo (S.length + k)) = true) (hk : k ≤ l.length) : (gcV (S.length + k) (.int x) (S ++ l)).sat Q = Q (.int x) (S ++ l.take k) := gc_k hw hl hk rfl
theorem gc_kB {l : Sto} {x : Bool} {k : Nat} (hw : Wf S) (hl : (l.take k).all (cellNo (S.length + k)) = true) (hk : k ≤ l.length) : (gcV (S.length + k) (.bl x) (S ++ l)).sat Q = Q (.bl x) (S ++ l.take k) := gc_k hw hl hk rfl
end
theorem ok_ff {x y : Int × Int} {n : Nat} (hx : Frq n x) (hy : Frq n y) (hn : 0 < n) (hn2 : n ≤ 1000) : okShow (.list [pf x, pf y]) := by
  have a1 := hx.1.log hn; have a2 := hx.2.1.log hn; have a3 := hy.1.log hn; have a4 := hy.2.1.log hn
  refine okShow_of ?_ (Nat.le_of_ble_eq_true rfl) ?_
  · simp [asc, asc.ascs, pf]; omega
  · have : LINE = 16777216 := rfl
    simp [cst, cst.csts, pf]; omega
theorem ok_bb (a b : Bool) : okShow (.list [.bool a, .bool b]) := by cases a <;> cases b <;> decide
instance (q : Int × Int) : Decidable (Gv q) := by unfold Gv; infer_instance
instance (n : Nat) (q : Int × Int) : Decidable (Frq n q) := by unfold Frq; infer_instance
theorem line0 : (0 ≤ LINE) = True := eq_true (Nat.le_of_ble_eq_true rfl)
theorem line1 : (1 ≤ LINE) = True := eq_true (Nat.le_of_ble_eq_true rfl)
theorem line2 : (2 ≤ LINE) = True := eq_true (Nat.le_of_ble_eq_true rfl)
theorem line3 : (3 ≤ LINE) = True := eq_true (Nat.le_of_ble_eq_true rfl)
theorem line4 : (4 ≤ LINE) = True := eq_true (Nat.le_of_ble_eq_true rfl)
theorem line5 : (5 ≤ LINE) = True := eq_true (Nat.le_of_ble_eq_true rfl)
theorem line6 : (6 ≤ LINE) = True := eq_true (Nat.le_of_ble_eq_true rfl)
theorem line7 : (7 ≤ LINE) = True := eq_true (Nat.le_of_ble_eq_true rfl)
theorem line8 : (8 ≤ LINE) = True := eq_true (Nat.le_of_ble_eq_true rfl)
theorem line9 : (9 ≤ LINE) = True := eq_true (Nat.le_of_ble_eq_true rfl)
theorem line10 : (10 ≤ LINE) = True := eq_true (Nat.le_of_ble_eq_true rfl)
theorem line11 : (11 ≤ LINE) = True := eq_true (Nat.le_of_ble_eq_true rfl)
theorem line12 : (12 ≤ LINE) = True := eq_true (Nat.le_of_ble_eq_true rfl)
theorem line13 : (13 ≤ LINE) = True := eq_true (Nat.le_of_ble_eq_true rfl)
theorem line14 : (14 ≤ LINE) = True := eq_true (Nat.le_of_ble_eq_true rfl)
theorem line15 : (15 ≤ LINE) = True := eq_true (Nat.le_of_ble_eq_true rfl)
theorem line16 : (16 ≤ LINE) = True := eq_true (Nat.le_of_ble_eq_true rfl)
theorem line17 : (17 ≤ LINE) = True := eq_true (Nat.le_of_ble_eq_true rfl)
theorem line18 : (18 ≤ LINE) = True := eq_true (Nat.le_of_ble_eq_true rfl)
theorem line19 : (19 ≤ LINE) = True := eq_true (Nat.le_of_ble_eq_true rfl)
theorem line20 : (20 ≤ LINE) = True := eq_true (Nat.le_of_ble_eq_true rfl)
theorem line21 : (21 ≤ LINE) = True := eq_true (Nat.le_of_ble_eq_true rfl)
theorem line22 : (22 ≤ LINE) = True := eq_true (Nat.le_of_ble_eq_true rfl)
theorem line23 : (23 ≤ LINE) = True := eq_true (Nat.le_of_ble_eq_true rfl)
theorem line24 : (24 ≤ LINE) = True := eq_true (Nat.le_of_ble_eq_true rfl)
theorem lint0 : (0 < LINE) = True := eq_true (Nat.le_of_ble_eq_true rfl)
theorem lint1 : (1 < LINE) = True := eq_true (Nat.le_of_ble_eq_true rfl)
theorem lint2 : (2 < LINE) = True := eq_true (Nat.le_of_ble_eq_true rfl)
theorem lint3 : (3 < LINE) = True := eq_true (Nat.le_of_ble_eq_true rfl)
theorem lint4 : (4 < LINE) = True := eq_true (Nat.le_of_ble_eq_true rfl)
theorem lint5 : (5 < LINE) = True := eq_true (Nat.le_of_ble_eq_true rfl)
theorem lint6 : (6 < LINE) = True := eq_true (Nat.le_of_ble_eq_true rfl)
theorem lint7 : (7 < LINE) = True := eq_true (Nat.le_of_ble_eq_true rfl)
theorem lint8 : (8 < LINE) = True := eq_true (Nat.le_of_ble_eq_true rfl)
theorem lint9 : (9 < LINE) = True := eq_true (Nat.le_of_ble_eq_true rfl)
theorem lint10 : (10 < LINE) = True := eq_true (Nat.le_of_ble_eq_true rfl)
theorem lint11 : (11 < LINE) = True := eq_true (Nat.le_of_ble_eq_true rfl)
theorem lint12 : (12 < LINE) = True := eq_true (Nat.le_of_ble_eq_true rfl)
theorem lint13 : (13 < LINE) = True := eq_true (Nat.le_of_ble_eq_true rfl)
theorem lint14 : (14 < LINE) = True := eq_true (Nat.le_of_ble_eq_true rfl)
theorem lint15 : (15 < LINE) = True := eq_true (Nat.le_of_ble_eq_true rfl)
theorem lint16 : (16 < LINE) = True := eq_true (Nat.le_of_ble_eq_true rfl)
theorem lint17 : (17 < LINE) = True := eq_true (Nat.le_of_ble_eq_true rfl)
theorem lint18 : (18 < LINE) = True := eq_true (Nat.le_of_ble_eq_true rfl)
theorem lint19 : (19 < LINE) = True := eq_true (Nat.le_of_ble_eq_true rfl)
theorem lint20 : (20 < LINE) = True := eq_true (Nat.le_of_ble_eq_true rfl)
theorem lint21 : (21 < LINE) = True := eq_true (Nat.le_of_ble_eq_true rfl)
theorem lint22 : (22 < LINE) = True := eq_true (Nat.le_of_ble_eq_true rfl)
theorem lint23 : (23 < LINE) = True := eq_true (Nat.le_of_ble_eq_true rfl)
theorem lint24 : (24 < LINE) = True := eq_true (Nat.le_of_ble_eq_true rfl)
theorem seq_cut {a b : Sm} {env : EnvD} {S : Sto} {N : EnvD → Sto → Prop} {U : D → Sto → Prop} {B C : EnvD → Sto → Prop} (M : EnvD → Sto → Prop) (h : (a env S).sat M U B C) (k : ∀ e T, M e T → (b e T).sat N U B C) : (sSeq a b env S).sat N U B C := by
  rw [x_seq]
  exact fsat_mono h (fun e T m => k e T m) (fun _ _ q => q) (fun _ _ q => q) (fun _ _ q => q)
theorem Bd.add' {n m : Nat} {i j : Int} (h : Bd n i) (k : Bd m j) : Bd (max n m + 1) (i + j) := (h.mono (Nat.le_max_left n m)).add (k.mono (Nat.le_max_right n m))
theorem Bd.sub' {n m : Nat} {i j : Int} (h : Bd n i) (k : Bd m j) : Bd (max n m + 1) (i - j) := (h.mono (Nat.le_max_left n m)).sub (k.mono (Nat.le_max_right n m))
section
variable {S : Sto} {Q : D → Sto → Prop}
theorem v_tupleR (n : Nat) : (vTuple [.ref n] S).sat Q = cellQ S[n]? fun ds => Q (.tup ds) S := by
  simp only [vTuple, lstOf]
  rcases S[n]? with _ | ⟨ds | kvs⟩ <;> rfl
theorem v_tupleT (ds : List D) : (vTuple [.tup ds] S).sat Q = Q (.tup ds) S := rfl
theorem v_tupleF (ds : List D) : (vTuple [.frl ds] S).sat Q = Q (.tup ds) S := rfl
theorem v_listR (n : Nat) : (vList [.ref n] S).sat Q = cellQ S[n]? fun ds => Q (.ref S.length) (S ++ [.lst ds]) := by
  simp only [vList, lstOf]
  rcases S[n]? with _ | ⟨ds | kvs⟩ <;> rfl
theorem v_listT (ds : List D) : (vList [.tup ds] S).sat Q = Q (.ref S.length) (S ++ [.lst ds]) := rfl
end
theorem mapO_fr {S : Sto} (n : Nat) (qs : List (Int × Int)) : mapO (toPy S (n + 2)) (qs.map fr) = some (qs.map pf) := by
  induction qs with
  | nil => rfl
  | cons q qs ih => rw [List.map_cons, List.map_cons]; exact mapO_cons _ _ _ _ _ (py_fr n q) ih
theorem mapO_int {S : Sto} (n : Nat) (qs : List Int) : mapO (toPy S (n + 1)) (qs.map D.int) = some (qs.map PyData.int) := by
  induction qs with
  | nil => rfl
  | cons q qs ih => rw [List.map_cons, List.map_cons]; exact mapO_cons _ _ _ _ _ rfl ih
theorem nr_frs (n : Nat) (qs : List (Int × Int)) : noRef.noRefs n (qs.map fr) = true := by
  induction qs with
  | nil => rfl
  | cons q qs ih => rw [List.map_cons, noRef.noRefs, nr_fr, ih]; rfl
theorem nr_ints (n : Nat) (qs : List Int) : noRef.noRefs n (qs.map D.int) = true := by
  induction qs with
  | nil => rfl
  | cons q qs ih => rw [List.map_cons, noRef.noRefs, ih]; rfl
theorem canLay_frs (qs : List (Int × Int)) : PyData.canLayAll0 (qs.map pf) = true := by
  induction qs with
  | nil => simp [PyData.canLayAll0]
  | cons q qs ih => simp [PyData.canLayAll0, ih, pf, PyData.canLay0]
theorem depth_frs (qs : List (Int × Int)) : PyData.depthAll (qs.map pf) ≤ 1 := by
  induction qs with
  | nil => simp [PyData.depthAll]
  | cons q qs ih => simp [PyData.depthAll, pf, PyData.depth] at *; omega
theorem canLay_ints (qs : List Int) : PyData.canLayAll0 (qs.map PyData.int) = true := by
  induction qs with
  | nil => simp [PyData.canLayAll0]
  | cons q qs ih => simp [PyData.canLayAll0, ih, PyData.canLay0]
theorem depth_ints (qs : List Int) : PyData.depthAll (qs.map PyData.int) = 0 := by
  induction qs with
  | nil => simp [PyData.depthAll]
  | cons q qs ih => simp [PyData.depthAll, PyData.depth] at *; omega
theorem sh_tfrs (qs : List (Int × Int)) : SeqAt.shaped (.tuple (qs.map pf)) = true := by
  have h := depth_frs qs
  have h2 : PyData.depthAll (qs.map pf) + 1 ≤ 64 := by omega
  simp [SeqAt.shaped, PyData.canLay0, canLay_frs, PyData.depth, h2]
theorem sh_lfrs (qs : List (Int × Int)) : SeqAt.shaped (.list (qs.map pf)) = true := by
  have h := depth_frs qs
  have h2 : PyData.depthAll (qs.map pf) + 1 ≤ 64 := by omega
  simp [SeqAt.shaped, PyData.canLay0, canLay_frs, PyData.depth, h2]
theorem sh_tints (qs : List Int) : SeqAt.shaped (.tuple (qs.map PyData.int)) = true := by
  simp [SeqAt.shaped, PyData.canLay0, canLay_ints, PyData.depth, depth_ints]
theorem sh_lints (qs : List Int) : SeqAt.shaped (.list (qs.map PyData.int)) = true := by
  simp [SeqAt.shaped, PyData.canLay0, canLay_ints, PyData.depth, depth_ints]
theorem sh_t0 : SeqAt.shaped (.tuple []) = true := by simp [SeqAt.shaped, PyData.canLay0, PyData.canLayAll0, PyData.depth, PyData.depthAll]
theorem sh_l0 : SeqAt.shaped (.list []) = true := by simp [SeqAt.shaped, PyData.canLay0, PyData.canLayAll0, PyData.depth, PyData.depthAll]
theorem eqv_t0 {α : Type} (f : α → PyData) (qs : List α) : PyData.eqv (.tuple (qs.map f)) (.tuple []) = qs.isEmpty := by cases qs <;> simp [PyData.eqv, PyData.eqvAll]
theorem eqv_l0 {α : Type} (f : α → PyData) (qs : List α) : PyData.eqv (.list (qs.map f)) (.list []) = qs.isEmpty := by cases qs <;> simp [PyData.eqv, PyData.eqvAll]
theorem asc_frs {qs : List (Int × Int)} {n : Nat} (h : ∀ q ∈ qs, Bd n q.1 ∧ Bd n q.2) (hn : 0 < n ∧ n ≤ 1000) : asc.ascs (qs.map pf) = true ∧ cst.csts (qs.map pf) ≤ qs.length * (2 * n + 13) := by
  induction qs with
  | nil => simp [asc.ascs, cst.csts]
  | cons q qs ih =>
    have ⟨i1, i2⟩ := ih fun x hx => h x (List.mem_cons_of_mem _ hx)
    have ⟨h1, h2⟩ := h q List.mem_cons_self
    have a1 := h1.log hn.1; have a2 := h2.log hn.1
    constructor
    · simp [asc.ascs, asc, i1, pf]; omega
    · simp only [List.map_cons, cst.csts, cst, pf, List.length_cons, Nat.add_mul]; omega
theorem asc_ints {qs : List Int} {n : Nat} (h : ∀ q ∈ qs, Bd n q) (hn : 0 < n ∧ n ≤ 1900) : asc.ascs (qs.map PyData.int) = true ∧ cst.csts (qs.map PyData.int) ≤ qs.length * (n + 4) := by
  induction qs with
  | nil => simp [asc.ascs, cst.csts]
  | cons q qs ih =>
    have ⟨i1, i2⟩ := ih fun x hx => h x (List.mem_cons_of_mem _ hx)
    have h1 := h q List.mem_cons_self
    have a1 := h1.log hn.1
    constructor
    · simp [asc.ascs, asc, i1]; omega
    · simp only [List.map_cons, cst.csts, cst, List.length_cons, Nat.add_mul]; omega
theorem red_one {a b : Int} (ha : 0 < a) (hb : 0 < b) : ((red a b).1 = 1 ↔ b % a = 0) ∧ (b % a = 0 → (red a b).2 = b / a) := by
  have hd : b % a = 0 → gI a b = a := fun h => by
    have h1 : a.natAbs ∣ b.natAbs := Int.natAbs_dvd_natAbs.mpr (Int.dvd_of_emod_eq_zero h)
    unfold gI; rw [Nat.gcd_eq_left h1]; omega
  refine ⟨⟨fun h => ?_, fun h => ?_⟩, fun h => ?_⟩
  · have ⟨h1, _⟩ := red_mul (a := a) hb
    rw [h, Int.one_mul] at h1
    have := gI_dvd_r a b
    rw [← h1] at this
    exact Int.emod_eq_zero_of_dvd this
  · unfold red; rw [hd h]; exact Int.ediv_self (by omega)
  · unfold red; rw [hd h]
section
variable {S : Sto} {Q : D → Sto → Prop} {env : EnvD}
theorem v_sumAT (ds : List D) : (vSumA [.tup ds] S).sat Q = optQ (intsOf ds) fun ns => Q (.int ns.sum) S := by
  simp only [vSumA]; cases intsOf ds <;> rfl
theorem v_sumAR (n : Nat) : (vSumA [.ref n] S).sat Q = cellQ S[n]? fun ds => optQ (intsOf ds) fun bs => Q (.int bs.sum) S := by
  simp only [vSumA, lstOf]
  rcases S[n]? with _ | ⟨ds | kvs⟩
  · rfl
  · simp only [cellQ_lst, Option.bind_some]; cases intsOf ds <;> rfl
  · rfl
theorem v_mulAI (i j : Int) : (vMulA (.int i) (.int j) S).sat Q = (mulOk i j ∧ Q (.int (i * j)) S) := by unfold vMulA; rw [r_ite, r_stuck, if_false']; rfl
theorem v_mulAR (n : Nat) (k : Int) : (vMulA (.ref n) (.int k) S).sat Q = cellQ S[n]? fun ds => (-(2 ^ 62) < k ∧ k < 2 ^ 62 ∧ ds.length * k.toNat ≤ LINE) ∧ Q (.ref S.length) (S ++ [.lst (List.replicate k.toNat ds).flatten]) := by
  simp only [vMulA]
  rcases S[n]? with _ | ⟨ds | kvs⟩
  · rfl
  · simp only [cellQ_lst, r_ite, r_stuck, if_false', r_ok]
  · rfl
theorem v_andI (i j : Int) : (vAnd (.int i) (.int j) S).sat Q = Q (.int (Builtin.bitAnd i j)) S := rfl
theorem s_r3 (i j c : Int) {Q : Src → Sto → Prop} : (rng3 [.int i, .int j, .int c] S).sat Q = ((c ≠ 0 ∧ c.natAbs < 1073741824 ∧ Builtin.Range.small i j c = true ∧ 0 ≤ Builtin.Range.rangeSize i j c) ∧ Q (cSeq (intsD i c (Builtin.Range.rangeSize i j c).toNat)) S) := by simp only [rng3, r_ite, r_stuck, if_false', r_ok]
theorem v_revR (n : Nat) : (vRev (.ref n) S).sat Q = cellQ S[n]? fun ds => Q (.ref S.length) (S ++ [.lst ds.reverse]) := by
  simp only [vRev, lstOf]
  rcases S[n]? with _ | ⟨ds | kvs⟩ <;> rfl
end
theorem g_tpf (n : Nat) (g : Tgs) (q : Int × Int) {env : EnvD} {S : Sto} {Q : EnvD → Sto → Prop} : (gTp n g (fr q) env S).sat Q = (2 = n ∧ (g [.int q.1, .int q.2] env S).sat Q) := g_tp n g _
/-- the chain of whole parts -/
def cfI (a b : Int) : List Int := if h : 0 < b then a / b :: cfI b (a % b) else []
termination_by b.toNat
decreasing_by
  have := Int.emod_lt_of_pos a h
  have := Int.emod_nonneg a (show b ≠ 0 by omega)
  omega
theorem lt_WFk {n : Nat} (k : Nat) (h : n < 2 ^ k) (hk : k ≤ 2000 := by decide) : n < WF := lt_WF (Nat.lt_of_lt_of_le h (Nat.pow_le_pow_right (by decide) hk))
theorem shB (b : Bool) : SeqAt.shaped (.bool b) = true := by simp [SeqAt.shaped, PyData.canLay0, PyData.depth]
theorem v_eqB (i j : Bool) {S : Sto} {Q : D → Sto → Prop} : (vEq (.bl i) (.bl j) S).sat Q = Q (.bl (i == j)) S := by
  show (eqG id (.bl i) (.bl j) S).sat Q = _
  rw [eqG_sat]; simp only [toPy, eqQ_some, shB, PyData.eqv, id, true_and]
theorem v_neB (i j : Bool) {S : Sto} {Q : D → Sto → Prop} : (vNe (.bl i) (.bl j) S).sat Q = Q (.bl (!(i == j))) S := by
  show (eqG not (.bl i) (.bl j) S).sat Q = _
  rw [eqG_sat]; simp only [toPy, eqQ_some, shB, PyData.eqv, true_and]
theorem det_cop {a b c d : Int} (h : (a * d - b * c).natAbs = 1) : Nat.gcd a.natAbs b.natAbs = 1 := by
  have h1 : ((Nat.gcd a.natAbs b.natAbs : Nat) : Int) ∣ a * d - b * c := Int.dvd_sub (Int.dvd_mul_of_dvd_left (gI_dvd_l a b)) (Int.dvd_mul_of_dvd_left (gI_dvd_r a b))
  have h2 := Int.natAbs_dvd_natAbs.mpr h1
  rw [h, Int.natAbs_natCast] at h2
  exact Nat.eq_one_of_dvd_one h2
theorem ok_b3 (a b c : Bool) : okShow (.list [.bool a, .bool b, .bool c]) := by cases a <;> cases b <;> cases c <;> decide
theorem noDict_ints (ns : List Int) : PyData.hasDictAll (ns.map PyData.int) = false := by
  induction ns with
  | nil => simp [PyData.hasDictAll]
  | cons n ns ih => simp [PyData.hasDictAll, PyData.hasDict, ih]
theorem v_eqTI (ns : List Int) {S : Sto} {Q : D → Sto → Prop} : (vEq (.tup (ns.map D.int)) (.tup (ns.map D.int)) S).sat Q = Q (.bl true) S := by
  rw [v_eqT, py_tup, mapO_int]
  show eqQ id (some (.tuple (ns.map PyData.int))) (some (.tuple (ns.map PyData.int))) _ = _
  rw [eqQ_some, sh_tints, eqv_self (.tuple (ns.map PyData.int)) (by rw [PyData.hasDict]; exact noDict_ints ns)]
  simp
theorem at_last {α : Type} {xs : List α} (h : xs ≠ []) : L2.atI xs (-1) = some (xs.getLast h) := by
  have hl : 0 < xs.length := List.length_pos_iff.mpr h
  have := atI_neg xs 1 (by omega) hl
  rw [show (-(1 : Nat) : Int) = -1 from rfl] at this
  rw [this, List.getLast_eq_getElem, List.getElem?_eq_getElem (by omega)]
theorem g_tlR (n k : Nat) (g : Tgs) {env : EnvD} {S : Sto} {Q : EnvD → Sto → Prop} : (gTl n g (.ref k) env S).sat Q = cellQ S[k]? fun ds => ds.length = n ∧ (g ds env S).sat Q := by
  simp only [gTl, lstOf]
  rcases S[k]? with _ | ⟨ds | kvs⟩
  · rfl
  · simp only [cellQ_lst, r_ite, r_stuck, if_false']
  · rfl
theorem v_joinR (a : List Nat) (n : Nat) {S : Sto} {Q : D → Sto → Prop} : (vJoin (.str a) [.ref n] S).sat Q = cellQ S[n]? fun ds => optQ (strsOf ds) fun ys => (ys.map (·.length)).sum + ys.length * a.length ≤ LINE ∧ Q (.str (TL.joinL a ys)) S := by
  simp only [vJoin, lstOf]
  rcases S[n]? with _ | ⟨ds | kvs⟩
  · rfl
  · simp only [cellQ_lst, Option.bind_some]
    cases strsOf ds with
    | none => rfl
    | some ys => simp only [optQ_some, r_ite, r_stuck, if_false', r_ok]
  · rfl
theorem ty_str (x : List Nat) (S : Sto) : (tyN (.str x) S = some "str") = True := eq_true rfl
theorem v_mulAC (c : Nat) (k : Int) {S : Sto} {Q : D → Sto → Prop} : (vMulA (.str [c]) (.int k) S).sat Q = ((1 ≤ k ∧ k < 1000000) ∧ Q (.str (List.replicate k.toNat c)) S) := by unfold vMulA; simp only; rw [r_ite, r_stuck, if_false']; rfl
theorem v_lr (i j : Int) {S : Sto} {Q : D → Sto → Prop} : (vLR (.int i) (.int j) S).sat Q = (RgOk i j ∧ Q (.ref S.length) (S ++ [.lst (intsD i 1 (j - i).toNat)])) := by unfold vLR; simp only; rw [r_ite, r_stuck, if_false']; rfl
theorem Wf.setc {T : Sto} {n : Nat} {c : Cell} (h : Wf T) (hc : cellNo T.length c = true) : Wf (T.set n c) := by
  unfold Wf at h ⊢
  rw [List.length_set, List.all_eq_true] at *
  intro x hx
  rcases List.mem_or_eq_of_mem_set hx with z | z
  · exact h x z
  · subst z; exact hc
theorem Pg.setl {S T : Sto} {p n : Nat} {c : Cell} (h : Pg S p T) (h0 : S.length ≤ n) (hc : cellNo T.length c = true) : Pg S p (T.set n c) := by
  have hw := Wf.setc (n := n) h.wf hc
  obtain ⟨U, l, rfl, h, w, e, f⟩ := h
  refine ⟨U, l.set (n - U.length) c, ?_, h, hw, e, f⟩
  rw [List.set_append_right _ _ (by rw [h.len]; exact h0)]
end Fz

namespace Lw
open PySem PySem.Spec PyProof.Rows L2 Fz
/-! ### what the defs do -/
def k_MOST_NUMBER : D := (.int 999)
def k_MOST_TRIPLE : D := (.int 999)
def b_is_whole : Sm := (sRet (eAnd (e1 (vIsi "int") (eVar 0)) (eNot (e1 (vIsi "bool") (eVar 0)))))
def F_is_whole : Fn := defF 1 1 b_is_whole
def b_is_tuple_of : Sm := (sRet (eAnd (e1 (vIsi "tuple") (eVar 0)) (e2 vEq (eN vLen (aCons (eVar 0) aNil)) (eVar 1))))
def F_is_tuple_of : Fn := defF 2 2 b_is_tuple_of
def b_lowest : Sm := (sSeq (sAsg (eIf (tBl (e2 vGt (eVar 1) (eC (.int 0)))) (eN vGcd (aCons (eVar 0) (aCons (eVar 1) aNil))) (e1 vNeg (eN vGcd (aCons (eVar 0) (aCons (eVar 1) aNil))))) (gNm 2))
    (sRet (eN vTup (aCons (e2 vDiv (eVar 0) (eVar 2)) (aCons (e2 vDiv (eVar 1) (eVar 2)) aNil)))))
def F_lowest : Fn := defF 2 3 b_lowest
def b__law_pool : Sm := (sSeq (sPar2 4 5 (aCons (eGc (eN vSum (aCons (eSl (eVar 0) (oSome (eVar 1)) (oSome (e2 vAdd (eVar 1) (eC (.int 1))))) aNil))) (aCons (e2 vAdd (eC (.int 50021)) (e2 vMulI (eC (.int 977)) (eVar 1))) aNil)))
    (sSeq (sAsg (e2 vMulI (e2 vMulI (e2 vMulI (e2 vMulI (e2 vMulI (e2 vPow (eC (.int 10)) (eC (.int 64))) (e2 vPow (eC (.int 10)) (eC (.int 64)))) (e2 vPow (eC (.int 10)) (eC (.int 64)))) (e2 vPow (eC (.int 10)) (eC (.int 64)))) (e2 vPow (eC (.int 10)) (eC (.int 64)))) (e2 vPow (eC (.int 10)) (eC (.int 64)))) (gNm 2))
    (sSeq (sFor (iOf (eSl (eVar 0) oNone (oSome (eC (.int 12))))) (gNm 3) (sAsg (e2 vMod (e2 vAdd (e2 vAdd (e2 vMulI (eVar 5) (eC (.int 48271))) (e2 vMulI (e2 vMod (eVar 3) (eC (.int 2147483399))) (eC (.int 19)))) (eC (.int 7))) (eC (.int 2147483399))) (gNm 5)))
    (sRet (eN vLst (aCons (eIf (tOr (tBl (e2 vLt (eVar 4) (eC (.int 0)))) (tBl (e2 vGe (eVar 4) (e2 vPow (eC (.int 10)) (eC (.int 18)))))) (e2 vMod (eN vAbs (aCons (eVar 4) aNil)) (eVar 2)) (eC (.int 0))) (aCons (eVar 5) (aCons (eC (.int 0)) aNil))))))))
def F__law_pool : Fn := defF 2 6 b__law_pool
def b__law_take : Sm := (sSeq (sIf (tBl (e2 vGt (e2 vIx (eVar 0) (eC (.int 0))) (eC (.int 0)))) (sSeq (sAsg (eN vDivmod (aCons (e2 vIx (eVar 0) (eC (.int 0))) (aCons (eVar 1) aNil))) (gTp 2 (gsCons (gSb (eVar 0) (eC (.int 0))) (gsCons (gNm 3) gsNil))))
    (sRet (eVar 3))) sNil)
    (sSeq (sAsg (e2 vAdd (e2 vIx (eVar 0) (eC (.int 2))) (eC (.int 1))) (gSb (eVar 0) (eC (.int 2))))
    (sSeq (sAsg (e2 vMod (e2 vAdd (e2 vIx (eVar 0) (eC (.int 1))) (e2 vMulI (eC (.int 28657)) (e2 vIx (eVar 0) (eC (.int 2))))) (eC (.int 2147483399))) (gNm 2))
    (sSeq (sAsg (e2 vMod (e2 vAdd (e2 vMulI (eVar 2) (e2 vAdd (e2 vMod (eVar 2) (eC (.int 5003))) (eC (.int 48271)))) (e2 vMulI (eC (.int 17)) (e2 vIx (eVar 0) (eC (.int 2))))) (eC (.int 2147483399))) (gSb (eVar 0) (eC (.int 1))))
    (sRet (e2 vMod (e2 vDiv (e2 vIx (eVar 0) (eC (.int 1))) (eC (.int 613))) (eVar 1)))))))
def F__law_take : Fn := defF 2 4 b__law_take
def b__law_frac : Sm := (sSeq (sPar2 2 3 (aCons (eN vAbs (aCons (eVar 0) aNil)) (aCons (eVar 1) aNil)))
    (sSeq (sWh (tBl (e2 vGt (eVar 3) (eC (.int 0)))) (sPar2 2 3 (aCons (eVar 3) (aCons (e2 vMod (eVar 2) (eVar 3)) aNil))))
    (sRet (eN vTup (aCons (e2 vDiv (eVar 0) (eVar 2)) (aCons (e2 vDiv (eVar 1) (eVar 2)) aNil))))))
def F__law_frac : Fn := defF 2 4 b__law_frac
def b_is_between : Sm := (sRet (eAnd (eN (cF 1 0 [0] [] 1 F_is_whole) (aCons (eVar 0) aNil)) (eCh vLe vLe (eVar 1) (eVar 0) (eVar 2))))
def F_is_between : Fn := defF 3 3 b_is_between
def b_less_by : Sm := (sRet (eN (cF 2 0 [0, 1] [] 2 F_lowest) (aCons (e2 vSub (e2 vMulI (e2 vIx (eVar 0) (eC (.int 0))) (e2 vIx (eVar 1) (eC (.int 1)))) (e2 vMulI (e2 vIx (eVar 1) (eC (.int 0))) (e2 vIx (eVar 0) (eC (.int 1))))) (aCons (e2 vMulI (e2 vIx (eVar 0) (eC (.int 1))) (e2 vIx (eVar 1) (eC (.int 1)))) aNil))))
def F_less_by : Fn := defF 2 2 b_less_by
def b__law_small : Sm := (sSeq (sAsg (e2 vAdd (eC (.int 1)) (eN (cF 2 0 [0, 1] [] 2 F__law_take) (aCons (eVar 0) (aCons (eVar 1) aNil)))) (gNm 2))
    (sRet (eN (cF 2 0 [0, 1] [] 2 F__law_frac) (aCons (e2 vAdd (eC (.int 1)) (eN (cF 2 0 [0, 1] [] 2 F__law_take) (aCons (eVar 0) (aCons (eVar 2) aNil)))) (aCons (eVar 2) aNil)))))
def F__law_small : Fn := defF 2 3 b__law_small
def b_is_given : Sm := (sSeq (sIf (tOr (tNot (tOf (eN (cF 2 0 [0, 1] [] 2 F_is_tuple_of) (aCons (eVar 0) (aCons (eC (.int 2)) aNil))))) (tNot (tOf (eN (cF 3 0 [0, 1, 2] [] 3 F_is_between) (aCons (e2 vIx (eVar 0) (eC (.int 0))) (aCons (eC (.int 0)) (aCons (eC k_MOST_NUMBER) aNil))))))) (sRet (eC (.bl false))) sNil)
    (sRet (eAnd (eN (cF 3 0 [0, 1, 2] [] 3 F_is_between) (aCons (e2 vIx (eVar 0) (eC (.int 1))) (aCons (eC (.int 1)) (aCons (eC k_MOST_NUMBER) aNil)))) (e2 vEq (eN vGcd (aCons (e2 vIx (eVar 0) (eC (.int 0))) (aCons (e2 vIx (eVar 0) (eC (.int 1))) aNil))) (eC (.int 1))))))
def F_is_given : Fn := defF 1 1 b_is_given
def b_triples_by : Sm := (sSeq (sAsg (eN vLst aNil) (gNm 1))
    (sSeq (sFor (iArg rng2 (aCons (e2 vAdd (e2 vDiv (e2 vIx (eVar 0) (eC (.int 1))) (e2 vIx (eVar 0) (eC (.int 0)))) (eC (.int 1))) (aCons (e2 vAdd (eN vMin2 (aCons (eC k_MOST_TRIPLE) (aCons (e2 vDiv (e2 vMulI (eC (.int 3)) (e2 vIx (eVar 0) (eC (.int 1)))) (e2 vIx (eVar 0) (eC (.int 0)))) aNil))) (eC (.int 1))) aNil))) (gNm 2) (sSeq (sAsg (eN (cF 2 0 [0, 1] [] 2 F_less_by) (aCons (eVar 0) (aCons (eN vTup (aCons (eC (.int 1)) (aCons (eVar 2) aNil))) aNil))) (gNm 3))
    (sFor (iArg rng2 (aCons (e2 vAdd (eN vMax2 (aCons (eVar 2) (aCons (e2 vDiv (e2 vIx (eVar 3) (eC (.int 1))) (e2 vIx (eVar 3) (eC (.int 0)))) aNil))) (eC (.int 1))) (aCons (e2 vAdd (eN vMin2 (aCons (eC k_MOST_TRIPLE) (aCons (e2 vDiv (e2 vMulI (eC (.int 2)) (e2 vIx (eVar 3) (eC (.int 1)))) (e2 vIx (eVar 3) (eC (.int 0)))) aNil))) (eC (.int 1))) aNil))) (gNm 4) (sSeq (sPar2 5 6 (aCons (e2 vSub (e2 vMulI (e2 vIx (eVar 3) (eC (.int 0))) (eVar 4)) (e2 vIx (eVar 3) (eC (.int 1)))) (aCons (e2 vMulI (e2 vIx (eVar 3) (eC (.int 1))) (eVar 4)) aNil)))
    (sIf (tAnd (tBl (e2 vEq (e2 vMod (eVar 6) (eVar 5)) (eC (.int 0)))) (tBl (eCh vLt vLe (eVar 4) (e2 vDiv (eVar 6) (eVar 5)) (eC k_MOST_TRIPLE)))) (sExpr (eM "list" vApp (eVar 1) (aCons (eN vTup (aCons (eVar 2) (aCons (eVar 4) (aCons (e2 vDiv (eVar 6) (eVar 5)) aNil)))) aNil))) sNil)))))
    (sRet (eN vTuple (aCons (eVar 1) aNil)))))
def F_triples_by : Fn := defF 1 7 b_triples_by
def b_is_above : Sm := (sRet (eAnd (eN (cF 1 0 [0] [] 1 F_is_given) (aCons (eVar 0) aNil)) (e2 vGt (e2 vIx (eVar 0) (eC (.int 0))) (eC (.int 0)))))
def F_is_above : Fn := defF 1 1 b_is_above
def b_is_part : Sm := (sRet (eAnd (eN (cF 1 0 [0] [] 1 F_is_above) (aCons (eVar 0) aNil)) (e2 vLe (e2 vIx (eVar 0) (eC (.int 0))) (e2 vIx (eVar 0) (eC (.int 1))))))
def F_is_part : Fn := defF 1 1 b_is_part
def b_check_part : Sm := (sIf (tNot (tOf (eN (cF 1 0 [0] [] 1 F_is_part) (aCons (eVar 0) aNil)))) sStuck sNil)
def F_check_part : Fn := defF 1 1 b_check_part
def b_triples : Sm := (sSeq (sExpr (eN (cF 1 0 [0] [] 1 F_check_part) (aCons (eVar 0) aNil)))
    (sRet (eN (cF 1 0 [0] [] 1 F_triples_by) (aCons (eVar 0) aNil))))
def F_triples : Fn := defF 1 1 b_triples
def b__law_right : Sm := (sSeq (sAsg (eN (cF 2 0 [0, 1] [] 2 F__law_small) (aCons (eVar 0) (aCons (eVar 1) aNil))) (gNm 2))
    (sSeq (sIf (tBl (e2 vLt (e2 vMulI (eC (.int 30)) (e2 vIx (eVar 2) (eC (.int 0)))) (e2 vIx (eVar 2) (eC (.int 1))))) (sAsg (eN vTup (aCons (eC (.int 1)) (aCons (e2 vAdd (eC (.int 1)) (e2 vMod (e2 vIx (eVar 2) (eC (.int 1))) (eC (.int 30)))) aNil))) (gNm 2)) sNil)
    (sSeq (sPar3 4 5 6 (aCons (eN vLst aNil) (aCons (e2 vIx (eVar 2) (eC (.int 0))) (aCons (e2 vIx (eVar 2) (eC (.int 1))) aNil))))
    (sSeq (sFor (iArg rng2 (aCons (e2 vDiv (eVar 6) (eVar 5)) (aCons (e2 vAdd (eN vMin2 (aCons (eC (.int 999)) (aCons (e2 vDiv (e2 vMulI (eC (.int 3)) (eVar 6)) (eVar 5)) aNil))) (eC (.int 1))) aNil))) (gNm 3) (sSeq (sPar2 9 10 (aCons (e2 vSub (e2 vMulI (eVar 5) (eVar 3)) (eVar 6)) (aCons (e2 vMulI (eVar 6) (eVar 3)) aNil)))
    (sSeq (sAsg (eIf (tBl (e2 vGt (eVar 9) (eC (.int 0)))) (e2 vLR (e2 vAdd (eN vMax2 (aCons (eVar 3) (aCons (e2 vDiv (eVar 10) (eVar 9)) aNil))) (eC (.int 1))) (e2 vAdd (eN vMin2 (aCons (eC (.int 998)) (aCons (e2 vDiv (e2 vMulI (eC (.int 2)) (eVar 10)) (eVar 9)) aNil))) (eC (.int 1)))) (eN vLst aNil)) (gNm 7))
    (sFor (iOf (eVar 7)) (gNm 8) (sSeq (sAsg (e2 vSub (e2 vMulI (eVar 9) (eVar 8)) (eVar 10)) (gNm 11))
    (sIf (tAnd (tBl (e2 vGt (eVar 11) (eC (.int 0)))) (tAnd (tBl (e2 vEq (e2 vMod (e2 vMulI (eVar 10) (eVar 8)) (eVar 11)) (eC (.int 0)))) (tBl (eCh vLt vLt (eVar 8) (e2 vDiv (e2 vMulI (eVar 10) (eVar 8)) (eVar 11)) (eC (.int 1000)))))) (sExpr (eM "list" vApp (eVar 4) (aCons (eN vTup (aCons (eVar 3) (aCons (eVar 8) (aCons (e2 vDiv (e2 vMulI (eVar 10) (eVar 8)) (eVar 11)) aNil)))) aNil))) sNil))))))
    (sSeq (sIf (tBl (e2 vNe (eGc (eN vRepr (aCons (eN vLst (aCons (eN (cF 1 0 [0] [] 1 F_triples) (aCons (eVar 2) aNil)) (aCons (eN (cF 0 1 [0] [] 1 F_triples) (aCons (eVar 2) aNil)) aNil))) aNil))) (eN vRepr (aCons (e2 vMulA (eN vLst (aCons (eN vTuple (aCons (eVar 4) aNil)) aNil)) (eC (.int 2))) aNil)))) (sRet (eC (.bl false))) sNil)
    (sRet (e2 vEq (eN (cF 1 0 [0] [] 1 F_triples) (aCons (eN vTup (aCons (eC (.int 1)) (aCons (eC (.int 1)) aNil))) aNil)) (eN vTup (aCons (eN vTup (aCons (eC (.int 2)) (aCons (eC (.int 3)) (aCons (eC (.int 6)) aNil)))) aNil)))))))))
def F__law_right : Fn := defF 2 12 b__law_right
def b_law : Sm := (sSeq (sFor (iArg rng1 (aCons (eN vMax2 (aCons (eC (.int 2)) (aCons (eN vMin2 (aCons (eN vLen (aCons (eVar 0) aNil)) (aCons (eC (.int 3)) aNil))) aNil))) aNil)) (gNm 1) (sSeq (sAsg (eN (cF 2 0 [0, 1] [] 2 F__law_pool) (aCons (eVar 0) (aCons (eVar 1) aNil))) (gNm 2))
    (sFor (iOf (eN vLst (aCons (eC (.int 9)) (aCons (eC (.int 30)) (aCons (eC (.int 99)) (aCons (eC (.int 12)) aNil)))))) (gNm 3) (sIf (tNot (tOf (eN (cF 2 0 [0, 1] [] 2 F__law_right) (aCons (eVar 2) (aCons (eVar 3) aNil))))) (sRet (eC (.bl false))) sNil))))
    (sRet (eC (.bl true))))
def F_law : Fn := defF 1 4 b_law
end Lw

namespace Lw
open PySem PySem.Spec PyProof.Rows L2 Fz
theorem take_spec {S : Sto} {p : Nat} {m : Int} (hp : Pl S p) (hm : 0 < m) (hm2 : m < 1073741824) :
    (F__law_take [.ref p, .int m] S).sat fun d S' => ∃ x : Int, d = .int x ∧ 0 ≤ x ∧ x < m ∧ Pn S p S' := by
  obtain ⟨a, b, c, hp⟩ := hp
  have hl := lt_of_get hp
  unfold F__law_take b__law_take
  simp -implicitDefEqProofs only [Fz.r_ok, Fz.r_stuck, Fz.r_ite, Fz.r_bind, Fz.r_fl, Fz.r_fl0, Fz.f_ite, Fz.x_nil, Fz.x_seq, Fz.x_expr, Fz.x_ret, Fz.x_retN, Fz.x_brk, Fz.x_cnt, Fz.x_stuck, Fz.x_if, Fz.x_asg, Fz.x_par2, Fz.x_par3, Fz.g_nm, Fz.g_nil, Fz.g_cons, Fz.g_tp, Fz.g_sb, Fz.g_set, Fz.e_var0, Fz.e_varS, Fz.e_c, Fz.e_1, Fz.e_2, Fz.e_n, Fz.e_gc, Fz.e_if, Fz.e_and, Fz.e_or, Fz.e_not, Fz.e_ch, Fz.e_sl, Fz.o_none, Fz.o_some, Fz.a_nil, Fz.a_cons, Fz.a_app, Fz.a_star, Fz.t_of, Fz.t_bl, Fz.t_not, Fz.t_and, Fz.t_or, Fz.t_yes, Fz.b_bl, Fz.u_bl, Fz.u_int, Fz.u_non, Fz.u_tup, Fz.u_frl, Fz.u_str, Fz.v_addI, Fz.v_addS, Fz.v_addT, Fz.v_subI, Fz.v_mulII, Fz.v_divI, Fz.v_modI, Fz.v_powI, Fz.v_shlI, Fz.v_shrI, Fz.v_negI, Fz.v_cmpI, Fz.v_tup, Fz.v_lst, Fz.v_absI, Fz.v_maxI, Fz.v_minI, Fz.v_intI, Fz.v_intB, Fz.v_gcdI, Fz.v_dmI, Fz.v_lenS, Fz.v_lenT, Fz.v_lenF, Fz.v_lenR, Fz.v_ixT, Fz.v_ixF, Fz.v_ixR, Fz.v_ixS, Fz.v_slT, Fz.v_slF, Fz.v_slR, Fz.v_slS, Fz.v_revS, Fz.v_eqS, Fz.v_neS, Fz.v_eqI, Fz.v_neI, Fz.v_eqT, Fz.v_neT, Fz.v_eqR, Fz.v_neR, Fz.v_inC, Fz.v_ninC, Fz.x_for, Fz.i_of, Fz.i_arg, Fz.s_tup, Fz.s_frl, Fz.s_str, Fz.s_ref, Fz.s_r1, Fz.s_r2, Fz.e_lc, Fz.r_nox, Fz.v_allR, Fz.v_anyR, Fz.v_sumR, Fz.i_int, Fz.s_starT, Fz.v_isiS, Fz.v_isiSI, Fz.v_isiI, Fz.v_isiIB, Fz.v_isiIS, Fz.v_isiIT, Fz.v_isiIL, Fz.v_isiT, Fz.v_isiTI, Fz.v_isiTL, Fz.v_eqF, Fz.v_neF, Fz.v_ixf0, Fz.v_ixf1, Fz.v_isif, Fz.v_lenf, Fz.v_reprP, Fz.e_m, Fz.v_appR, Fz.v_isB, Fz.v_isNN, Fz.v_isNI, Fz.v_isNT, Fz.v_isNF, Fz.v_isNR, Fz.v_notNN, Fz.v_notNI, Fz.v_notNT, Fz.v_notNF, Fz.v_notNR, Fz.v_tupleR, Fz.v_tupleT, Fz.v_tupleF, Fz.v_listR, Fz.v_listT, Fz.v_sumAT, Fz.v_sumAR, Fz.v_mulAI, Fz.v_mulAR, Fz.v_andI, Fz.s_r3, Fz.v_revR, Fz.g_tpf, Fz.v_eqB, Fz.v_neB, Fz.v_eqTI, Fz.g_tlR, Fz.v_joinR, Fz.v_mulAC, Fz.v_lr, Fz.c_F, Fz.d_F, Fz.if_false', Fz.if_true', Fz.cellQ_lst, Fz.optQ_some, Fz.atI_0, Fz.atI_1, Fz.atI_n, Fz.ixN_0, Fz.ixN_1, Fz.ixN_n, List.set_cons_succ, List.set_cons_zero, List.getElem?_cons_succ, List.getElem?_cons_zero, List.length_cons, List.length_nil, List.map_cons, List.map_nil, List.replicate_succ, List.replicate_zero, List.cons_append, List.nil_append, List.append_assoc, List.append_nil, Fz.permL, List.filterMap_cons, List.filterMap_nil, Fz.wipeD, List.length_set, List.set_set, Nat.reduceAdd, Nat.reduceLT, Nat.reduceLeDiff, Nat.reduceSub, Nat.reduceEqDiff, Int.reduceAdd, Int.reduceToNat, Int.reducePow, decide_eq_true_eq, if_true, if_false, ite_true, ite_false, true_and, and_true, not_false_eq_true, not_true_eq_false, false_and, and_false, Bool.false_eq_true, Bool.true_eq_false, Bool.not_true, Bool.not_false, Fz.set_at, Fz.gc_selfS, Fz.app_at, Fz.app_at0, Fz.app_lt, Fz.gc_appI, Fz.gc_appB, Fz.gc_appS, Fz.gc_appN, Fz.cutD_map, Fz.ints_int, List.flatten_cons, List.flatten_nil, Nat.add_assoc, Fz.mapO_fr, Fz.mapO_int, Fz.nr_frs, Fz.nr_ints, Fz.py_int, Fz.py_str, Fz.py_bl, Fz.py_non, Fz.py_tup, Fz.line0, Fz.lint0, Fz.line1, Fz.lint1, Fz.line2, Fz.lint2, Fz.line3, Fz.lint3, Fz.line4, Fz.lint4, Fz.line5, Fz.lint5, Fz.line6, Fz.lint6, Fz.line7, Fz.lint7, Fz.line8, Fz.lint8, Fz.line9, Fz.lint9, Fz.line10, Fz.lint10, Fz.line11, Fz.lint11, Fz.line12, Fz.lint12, Fz.line13, Fz.lint13, Fz.line14, Fz.lint14, Fz.line15, Fz.lint15, Fz.line16, Fz.lint16, Fz.line17, Fz.lint17, Fz.line18, Fz.lint18, Fz.line19, Fz.lint19, Fz.line20, Fz.lint20, Fz.line21, Fz.lint21, Fz.line22, Fz.lint22, Fz.line23, Fz.lint23, Fz.line24, Fz.lint24, Fz.set_atk, Fz.set_at0, Fz.optC_lst, Fz.py_fr, Fz.py_refC, Fz.ty_list, Fz.ty_str, Fz.nr_fr, Fz.gc_kS, Fz.gc_kI, Fz.gc_kB, Fz.cellNo, Fz.noRef.noRefs, Fz.noRef, List.all_cons, List.all_nil, List.take_succ_cons, List.take_zero, Nat.le_refl, Nat.reduceLeDiff, Fz.mapO, Option.map_some, Fz.eqQ_some, List.cons_beq_cons, Nat.reduceBEq, Nat.reduceBNe, Bool.and_true, Bool.true_and, Bool.false_and, Bool.and_false, beq_self_eq_true, Bool.or_true, Bool.true_or, Bool.or_false, Bool.false_or, Fz.bls_map, List.length_append, hp, hl]
  split
  · refine ⟨⟨hm, hm2⟩, ?_⟩
    rw [gc_set (by simp)]
    exact ⟨_, rfl, Int.emod_nonneg _ (by omega), Int.emod_lt_of_pos _ hm, ⟨_, _, _, rfl⟩⟩
  · refine ⟨mul_l (by omega) (by omega), by omega, by omega, mul_l (by omega) (by omega), mul_l (by omega) (by omega), by omega, by decide, hm, ?_⟩
    rw [gc_set (by simp)]
    exact ⟨_, rfl, Int.emod_nonneg _ (by omega), Int.emod_lt_of_pos _ hm, ⟨_, _, _, rfl⟩⟩
theorem pool_spec {S : Sto} {ns : List Int} {k : Int} (hw : Wf S) : (F__law_pool [.frl (ns.map D.int), .int k] S).sat fun d S' => d = .ref S.length ∧ ∃ a b c, S' = S ++ [.lst [.int a, .int b, .int c]] := by
  unfold F__law_pool b__law_pool
  simp -implicitDefEqProofs only [Fz.r_ok, Fz.r_stuck, Fz.r_ite, Fz.r_bind, Fz.r_fl, Fz.r_fl0, Fz.f_ite, Fz.x_nil, Fz.x_seq, Fz.x_expr, Fz.x_ret, Fz.x_retN, Fz.x_brk, Fz.x_cnt, Fz.x_stuck, Fz.x_if, Fz.x_asg, Fz.x_par2, Fz.x_par3, Fz.g_nm, Fz.g_nil, Fz.g_cons, Fz.g_tp, Fz.g_sb, Fz.g_set, Fz.e_var0, Fz.e_varS, Fz.e_c, Fz.e_1, Fz.e_2, Fz.e_n, Fz.e_gc, Fz.e_if, Fz.e_and, Fz.e_or, Fz.e_not, Fz.e_ch, Fz.e_sl, Fz.o_none, Fz.o_some, Fz.a_nil, Fz.a_cons, Fz.a_app, Fz.a_star, Fz.t_of, Fz.t_bl, Fz.t_not, Fz.t_and, Fz.t_or, Fz.t_yes, Fz.b_bl, Fz.u_bl, Fz.u_int, Fz.u_non, Fz.u_tup, Fz.u_frl, Fz.u_str, Fz.v_addI, Fz.v_addS, Fz.v_addT, Fz.v_subI, Fz.v_mulII, Fz.v_divI, Fz.v_modI, Fz.v_powI, Fz.v_shlI, Fz.v_shrI, Fz.v_negI, Fz.v_cmpI, Fz.v_tup, Fz.v_lst, Fz.v_absI, Fz.v_maxI, Fz.v_minI, Fz.v_intI, Fz.v_intB, Fz.v_gcdI, Fz.v_dmI, Fz.v_lenS, Fz.v_lenT, Fz.v_lenF, Fz.v_lenR, Fz.v_ixT, Fz.v_ixF, Fz.v_ixR, Fz.v_ixS, Fz.v_slT, Fz.v_slF, Fz.v_slR, Fz.v_slS, Fz.v_revS, Fz.v_eqS, Fz.v_neS, Fz.v_eqI, Fz.v_neI, Fz.v_eqT, Fz.v_neT, Fz.v_eqR, Fz.v_neR, Fz.v_inC, Fz.v_ninC, Fz.x_for, Fz.i_of, Fz.i_arg, Fz.s_tup, Fz.s_frl, Fz.s_str, Fz.s_ref, Fz.s_r1, Fz.s_r2, Fz.e_lc, Fz.r_nox, Fz.v_allR, Fz.v_anyR, Fz.v_sumR, Fz.i_int, Fz.s_starT, Fz.v_isiS, Fz.v_isiSI, Fz.v_isiI, Fz.v_isiIB, Fz.v_isiIS, Fz.v_isiIT, Fz.v_isiIL, Fz.v_isiT, Fz.v_isiTI, Fz.v_isiTL, Fz.v_eqF, Fz.v_neF, Fz.v_ixf0, Fz.v_ixf1, Fz.v_isif, Fz.v_lenf, Fz.v_reprP, Fz.e_m, Fz.v_appR, Fz.v_isB, Fz.v_isNN, Fz.v_isNI, Fz.v_isNT, Fz.v_isNF, Fz.v_isNR, Fz.v_notNN, Fz.v_notNI, Fz.v_notNT, Fz.v_notNF, Fz.v_notNR, Fz.v_tupleR, Fz.v_tupleT, Fz.v_tupleF, Fz.v_listR, Fz.v_listT, Fz.v_sumAT, Fz.v_sumAR, Fz.v_mulAI, Fz.v_mulAR, Fz.v_andI, Fz.s_r3, Fz.v_revR, Fz.g_tpf, Fz.v_eqB, Fz.v_neB, Fz.v_eqTI, Fz.g_tlR, Fz.v_joinR, Fz.v_mulAC, Fz.v_lr, Fz.c_F, Fz.d_F, Fz.if_false', Fz.if_true', Fz.cellQ_lst, Fz.optQ_some, Fz.atI_0, Fz.atI_1, Fz.atI_n, Fz.ixN_0, Fz.ixN_1, Fz.ixN_n, List.set_cons_succ, List.set_cons_zero, List.getElem?_cons_succ, List.getElem?_cons_zero, List.length_cons, List.length_nil, List.map_cons, List.map_nil, List.replicate_succ, List.replicate_zero, List.cons_append, List.nil_append, List.append_assoc, List.append_nil, Fz.permL, List.filterMap_cons, List.filterMap_nil, Fz.wipeD, List.length_set, List.set_set, Nat.reduceAdd, Nat.reduceLT, Nat.reduceLeDiff, Nat.reduceSub, Nat.reduceEqDiff, Int.reduceAdd, Int.reduceToNat, Int.reducePow, decide_eq_true_eq, if_true, if_false, ite_true, ite_false, true_and, and_true, not_false_eq_true, not_true_eq_false, false_and, and_false, Bool.false_eq_true, Bool.true_eq_false, Bool.not_true, Bool.not_false, Fz.set_at, Fz.gc_selfS, Fz.app_at, Fz.app_at0, Fz.app_lt, Fz.gc_appI, Fz.gc_appB, Fz.gc_appS, Fz.gc_appN, Fz.cutD_map, Fz.ints_int, List.flatten_cons, List.flatten_nil, Nat.add_assoc, Fz.mapO_fr, Fz.mapO_int, Fz.nr_frs, Fz.nr_ints, Fz.py_int, Fz.py_str, Fz.py_bl, Fz.py_non, Fz.py_tup, Fz.line0, Fz.lint0, Fz.line1, Fz.lint1, Fz.line2, Fz.lint2, Fz.line3, Fz.lint3, Fz.line4, Fz.lint4, Fz.line5, Fz.lint5, Fz.line6, Fz.lint6, Fz.line7, Fz.lint7, Fz.line8, Fz.lint8, Fz.line9, Fz.lint9, Fz.line10, Fz.lint10, Fz.line11, Fz.lint11, Fz.line12, Fz.lint12, Fz.line13, Fz.lint13, Fz.line14, Fz.lint14, Fz.line15, Fz.lint15, Fz.line16, Fz.lint16, Fz.line17, Fz.lint17, Fz.line18, Fz.lint18, Fz.line19, Fz.lint19, Fz.line20, Fz.lint20, Fz.line21, Fz.lint21, Fz.line22, Fz.lint22, Fz.line23, Fz.lint23, Fz.line24, Fz.lint24, Fz.set_atk, Fz.set_at0, Fz.optC_lst, Fz.py_fr, Fz.py_refC, Fz.ty_list, Fz.ty_str, Fz.nr_fr, Fz.gc_kS, Fz.gc_kI, Fz.gc_kB, Fz.cellNo, Fz.noRef.noRefs, Fz.noRef, List.all_cons, List.all_nil, List.take_succ_cons, List.take_zero, Nat.le_refl, Nat.reduceLeDiff, Fz.mapO, Option.map_some, Fz.eqQ_some, List.cons_beq_cons, Nat.reduceBEq, Nat.reduceBNe, Bool.and_true, Bool.true_and, Bool.false_and, Bool.and_false, beq_self_eq_true, Bool.or_true, Bool.true_or, Bool.or_false, Bool.false_or, Fz.bls_map, List.length_append, hw]
  refine ⟨mul_l (by omega) (by omega), by decide, by decide, by decide +kernel, by decide, by decide +kernel, by decide, by decide +kernel, by decide, by decide +kernel, by decide, by decide +kernel, ?_⟩
  refine for_cell rfl (fun i e T => T = S ++ [_] ∧ ∃ x m, e = [_, _, _, x, _, some (.int m)]) ?_ ⟨rfl, _, _, rfl⟩ ?_ ?_
  · rintro i e T ⟨rfl, -⟩
    exact app_at0 _ _
  · rintro i d e T hd ⟨rfl, x, m, rfl⟩
    rw [List.getElem?_map] at hd
    cases hq : (cutD ns none (some 12))[i]? with
    | none => rw [hq] at hd; cases hd
    | some v =>
      rw [hq] at hd; cases hd
      simp -implicitDefEqProofs only [Fz.r_ok, Fz.r_stuck, Fz.r_ite, Fz.r_bind, Fz.r_fl, Fz.r_fl0, Fz.f_ite, Fz.x_nil, Fz.x_seq, Fz.x_expr, Fz.x_ret, Fz.x_retN, Fz.x_brk, Fz.x_cnt, Fz.x_stuck, Fz.x_if, Fz.x_asg, Fz.x_par2, Fz.x_par3, Fz.g_nm, Fz.g_nil, Fz.g_cons, Fz.g_tp, Fz.g_sb, Fz.g_set, Fz.e_var0, Fz.e_varS, Fz.e_c, Fz.e_1, Fz.e_2, Fz.e_n, Fz.e_gc, Fz.e_if, Fz.e_and, Fz.e_or, Fz.e_not, Fz.e_ch, Fz.e_sl, Fz.o_none, Fz.o_some, Fz.a_nil, Fz.a_cons, Fz.a_app, Fz.a_star, Fz.t_of, Fz.t_bl, Fz.t_not, Fz.t_and, Fz.t_or, Fz.t_yes, Fz.b_bl, Fz.u_bl, Fz.u_int, Fz.u_non, Fz.u_tup, Fz.u_frl, Fz.u_str, Fz.v_addI, Fz.v_addS, Fz.v_addT, Fz.v_subI, Fz.v_mulII, Fz.v_divI, Fz.v_modI, Fz.v_powI, Fz.v_shlI, Fz.v_shrI, Fz.v_negI, Fz.v_cmpI, Fz.v_tup, Fz.v_lst, Fz.v_absI, Fz.v_maxI, Fz.v_minI, Fz.v_intI, Fz.v_intB, Fz.v_gcdI, Fz.v_dmI, Fz.v_lenS, Fz.v_lenT, Fz.v_lenF, Fz.v_lenR, Fz.v_ixT, Fz.v_ixF, Fz.v_ixR, Fz.v_ixS, Fz.v_slT, Fz.v_slF, Fz.v_slR, Fz.v_slS, Fz.v_revS, Fz.v_eqS, Fz.v_neS, Fz.v_eqI, Fz.v_neI, Fz.v_eqT, Fz.v_neT, Fz.v_eqR, Fz.v_neR, Fz.v_inC, Fz.v_ninC, Fz.x_for, Fz.i_of, Fz.i_arg, Fz.s_tup, Fz.s_frl, Fz.s_str, Fz.s_ref, Fz.s_r1, Fz.s_r2, Fz.e_lc, Fz.r_nox, Fz.v_allR, Fz.v_anyR, Fz.v_sumR, Fz.i_int, Fz.s_starT, Fz.v_isiS, Fz.v_isiSI, Fz.v_isiI, Fz.v_isiIB, Fz.v_isiIS, Fz.v_isiIT, Fz.v_isiIL, Fz.v_isiT, Fz.v_isiTI, Fz.v_isiTL, Fz.v_eqF, Fz.v_neF, Fz.v_ixf0, Fz.v_ixf1, Fz.v_isif, Fz.v_lenf, Fz.v_reprP, Fz.e_m, Fz.v_appR, Fz.v_isB, Fz.v_isNN, Fz.v_isNI, Fz.v_isNT, Fz.v_isNF, Fz.v_isNR, Fz.v_notNN, Fz.v_notNI, Fz.v_notNT, Fz.v_notNF, Fz.v_notNR, Fz.v_tupleR, Fz.v_tupleT, Fz.v_tupleF, Fz.v_listR, Fz.v_listT, Fz.v_sumAT, Fz.v_sumAR, Fz.v_mulAI, Fz.v_mulAR, Fz.v_andI, Fz.s_r3, Fz.v_revR, Fz.g_tpf, Fz.v_eqB, Fz.v_neB, Fz.v_eqTI, Fz.g_tlR, Fz.v_joinR, Fz.v_mulAC, Fz.v_lr, Fz.c_F, Fz.d_F, Fz.if_false', Fz.if_true', Fz.cellQ_lst, Fz.optQ_some, Fz.atI_0, Fz.atI_1, Fz.atI_n, Fz.ixN_0, Fz.ixN_1, Fz.ixN_n, List.set_cons_succ, List.set_cons_zero, List.getElem?_cons_succ, List.getElem?_cons_zero, List.length_cons, List.length_nil, List.map_cons, List.map_nil, List.replicate_succ, List.replicate_zero, List.cons_append, List.nil_append, List.append_assoc, List.append_nil, Fz.permL, List.filterMap_cons, List.filterMap_nil, Fz.wipeD, List.length_set, List.set_set, Nat.reduceAdd, Nat.reduceLT, Nat.reduceLeDiff, Nat.reduceSub, Nat.reduceEqDiff, Int.reduceAdd, Int.reduceToNat, Int.reducePow, decide_eq_true_eq, if_true, if_false, ite_true, ite_false, true_and, and_true, not_false_eq_true, not_true_eq_false, false_and, and_false, Bool.false_eq_true, Bool.true_eq_false, Bool.not_true, Bool.not_false, Fz.set_at, Fz.gc_selfS, Fz.app_at, Fz.app_at0, Fz.app_lt, Fz.gc_appI, Fz.gc_appB, Fz.gc_appS, Fz.gc_appN, Fz.cutD_map, Fz.ints_int, List.flatten_cons, List.flatten_nil, Nat.add_assoc, Fz.mapO_fr, Fz.mapO_int, Fz.nr_frs, Fz.nr_ints, Fz.py_int, Fz.py_str, Fz.py_bl, Fz.py_non, Fz.py_tup, Fz.line0, Fz.lint0, Fz.line1, Fz.lint1, Fz.line2, Fz.lint2, Fz.line3, Fz.lint3, Fz.line4, Fz.lint4, Fz.line5, Fz.lint5, Fz.line6, Fz.lint6, Fz.line7, Fz.lint7, Fz.line8, Fz.lint8, Fz.line9, Fz.lint9, Fz.line10, Fz.lint10, Fz.line11, Fz.lint11, Fz.line12, Fz.lint12, Fz.line13, Fz.lint13, Fz.line14, Fz.lint14, Fz.line15, Fz.lint15, Fz.line16, Fz.lint16, Fz.line17, Fz.lint17, Fz.line18, Fz.lint18, Fz.line19, Fz.lint19, Fz.line20, Fz.lint20, Fz.line21, Fz.lint21, Fz.line22, Fz.lint22, Fz.line23, Fz.lint23, Fz.line24, Fz.lint24, Fz.set_atk, Fz.set_at0, Fz.optC_lst, Fz.py_fr, Fz.py_refC, Fz.ty_list, Fz.ty_str, Fz.nr_fr, Fz.gc_kS, Fz.gc_kI, Fz.gc_kB, Fz.cellNo, Fz.noRef.noRefs, Fz.noRef, List.all_cons, List.all_nil, List.take_succ_cons, List.take_zero, Nat.le_refl, Nat.reduceLeDiff, Fz.mapO, Option.map_some, Fz.eqQ_some, List.cons_beq_cons, Nat.reduceBEq, Nat.reduceBNe, Bool.and_true, Bool.true_and, Bool.false_and, Bool.and_false, beq_self_eq_true, Bool.or_true, Bool.true_or, Bool.or_false, Bool.false_or, Fz.bls_map, List.length_append]
      exact ⟨mul_r (by omega) (by omega), by omega, mul_r (by omega) (by omega), by omega, _, _, rfl⟩
  · rintro e T ⟨rfl, x, m, rfl⟩
    simp -implicitDefEqProofs only [Fz.r_ok, Fz.r_stuck, Fz.r_ite, Fz.r_bind, Fz.r_fl, Fz.r_fl0, Fz.f_ite, Fz.x_nil, Fz.x_seq, Fz.x_expr, Fz.x_ret, Fz.x_retN, Fz.x_brk, Fz.x_cnt, Fz.x_stuck, Fz.x_if, Fz.x_asg, Fz.x_par2, Fz.x_par3, Fz.g_nm, Fz.g_nil, Fz.g_cons, Fz.g_tp, Fz.g_sb, Fz.g_set, Fz.e_var0, Fz.e_varS, Fz.e_c, Fz.e_1, Fz.e_2, Fz.e_n, Fz.e_gc, Fz.e_if, Fz.e_and, Fz.e_or, Fz.e_not, Fz.e_ch, Fz.e_sl, Fz.o_none, Fz.o_some, Fz.a_nil, Fz.a_cons, Fz.a_app, Fz.a_star, Fz.t_of, Fz.t_bl, Fz.t_not, Fz.t_and, Fz.t_or, Fz.t_yes, Fz.b_bl, Fz.u_bl, Fz.u_int, Fz.u_non, Fz.u_tup, Fz.u_frl, Fz.u_str, Fz.v_addI, Fz.v_addS, Fz.v_addT, Fz.v_subI, Fz.v_mulII, Fz.v_divI, Fz.v_modI, Fz.v_powI, Fz.v_shlI, Fz.v_shrI, Fz.v_negI, Fz.v_cmpI, Fz.v_tup, Fz.v_lst, Fz.v_absI, Fz.v_maxI, Fz.v_minI, Fz.v_intI, Fz.v_intB, Fz.v_gcdI, Fz.v_dmI, Fz.v_lenS, Fz.v_lenT, Fz.v_lenF, Fz.v_lenR, Fz.v_ixT, Fz.v_ixF, Fz.v_ixR, Fz.v_ixS, Fz.v_slT, Fz.v_slF, Fz.v_slR, Fz.v_slS, Fz.v_revS, Fz.v_eqS, Fz.v_neS, Fz.v_eqI, Fz.v_neI, Fz.v_eqT, Fz.v_neT, Fz.v_eqR, Fz.v_neR, Fz.v_inC, Fz.v_ninC, Fz.x_for, Fz.i_of, Fz.i_arg, Fz.s_tup, Fz.s_frl, Fz.s_str, Fz.s_ref, Fz.s_r1, Fz.s_r2, Fz.e_lc, Fz.r_nox, Fz.v_allR, Fz.v_anyR, Fz.v_sumR, Fz.i_int, Fz.s_starT, Fz.v_isiS, Fz.v_isiSI, Fz.v_isiI, Fz.v_isiIB, Fz.v_isiIS, Fz.v_isiIT, Fz.v_isiIL, Fz.v_isiT, Fz.v_isiTI, Fz.v_isiTL, Fz.v_eqF, Fz.v_neF, Fz.v_ixf0, Fz.v_ixf1, Fz.v_isif, Fz.v_lenf, Fz.v_reprP, Fz.e_m, Fz.v_appR, Fz.v_isB, Fz.v_isNN, Fz.v_isNI, Fz.v_isNT, Fz.v_isNF, Fz.v_isNR, Fz.v_notNN, Fz.v_notNI, Fz.v_notNT, Fz.v_notNF, Fz.v_notNR, Fz.v_tupleR, Fz.v_tupleT, Fz.v_tupleF, Fz.v_listR, Fz.v_listT, Fz.v_sumAT, Fz.v_sumAR, Fz.v_mulAI, Fz.v_mulAR, Fz.v_andI, Fz.s_r3, Fz.v_revR, Fz.g_tpf, Fz.v_eqB, Fz.v_neB, Fz.v_eqTI, Fz.g_tlR, Fz.v_joinR, Fz.v_mulAC, Fz.v_lr, Fz.c_F, Fz.d_F, Fz.if_false', Fz.if_true', Fz.cellQ_lst, Fz.optQ_some, Fz.atI_0, Fz.atI_1, Fz.atI_n, Fz.ixN_0, Fz.ixN_1, Fz.ixN_n, List.set_cons_succ, List.set_cons_zero, List.getElem?_cons_succ, List.getElem?_cons_zero, List.length_cons, List.length_nil, List.map_cons, List.map_nil, List.replicate_succ, List.replicate_zero, List.cons_append, List.nil_append, List.append_assoc, List.append_nil, Fz.permL, List.filterMap_cons, List.filterMap_nil, Fz.wipeD, List.length_set, List.set_set, Nat.reduceAdd, Nat.reduceLT, Nat.reduceLeDiff, Nat.reduceSub, Nat.reduceEqDiff, Int.reduceAdd, Int.reduceToNat, Int.reducePow, decide_eq_true_eq, if_true, if_false, ite_true, ite_false, true_and, and_true, not_false_eq_true, not_true_eq_false, false_and, and_false, Bool.false_eq_true, Bool.true_eq_false, Bool.not_true, Bool.not_false, Fz.set_at, Fz.gc_selfS, Fz.app_at, Fz.app_at0, Fz.app_lt, Fz.gc_appI, Fz.gc_appB, Fz.gc_appS, Fz.gc_appN, Fz.cutD_map, Fz.ints_int, List.flatten_cons, List.flatten_nil, Nat.add_assoc, Fz.mapO_fr, Fz.mapO_int, Fz.nr_frs, Fz.nr_ints, Fz.py_int, Fz.py_str, Fz.py_bl, Fz.py_non, Fz.py_tup, Fz.line0, Fz.lint0, Fz.line1, Fz.lint1, Fz.line2, Fz.lint2, Fz.line3, Fz.lint3, Fz.line4, Fz.lint4, Fz.line5, Fz.lint5, Fz.line6, Fz.lint6, Fz.line7, Fz.lint7, Fz.line8, Fz.lint8, Fz.line9, Fz.lint9, Fz.line10, Fz.lint10, Fz.line11, Fz.lint11, Fz.line12, Fz.lint12, Fz.line13, Fz.lint13, Fz.line14, Fz.lint14, Fz.line15, Fz.lint15, Fz.line16, Fz.lint16, Fz.line17, Fz.lint17, Fz.line18, Fz.lint18, Fz.line19, Fz.lint19, Fz.line20, Fz.lint20, Fz.line21, Fz.lint21, Fz.line22, Fz.lint22, Fz.line23, Fz.lint23, Fz.line24, Fz.lint24, Fz.set_atk, Fz.set_at0, Fz.optC_lst, Fz.py_fr, Fz.py_refC, Fz.ty_list, Fz.ty_str, Fz.nr_fr, Fz.gc_kS, Fz.gc_kI, Fz.gc_kB, Fz.cellNo, Fz.noRef.noRefs, Fz.noRef, List.all_cons, List.all_nil, List.take_succ_cons, List.take_zero, Nat.le_refl, Nat.reduceLeDiff, Fz.mapO, Option.map_some, Fz.eqQ_some, List.cons_beq_cons, Nat.reduceBEq, Nat.reduceBNe, Bool.and_true, Bool.true_and, Bool.false_and, Bool.and_false, beq_self_eq_true, Bool.or_true, Bool.true_or, Bool.or_false, Bool.false_or, Fz.bls_map, List.length_append]
    have fin : ∀ u : Int, (gcV S.length (.ref (S.length + 1)) (S ++ [.lst ((cutD ns none (some 12)).map D.int), .lst [.int u, .int m, .int 0]])).sat fun d S' => d = .ref S.length ∧ ∃ a b c, S' = S ++ [.lst [.int a, .int b, .int c]] := by
      intro u
      rw [gc_new (k := 1) hw rfl rfl]
      exact ⟨rfl, _, _, _, rfl⟩
    split
    · exact ⟨by decide +kernel, fin _⟩
    · refine ⟨by decide, ?_⟩
      split
      · exact ⟨by decide +kernel, fin _⟩
      · exact fin _
theorem is_whole_eq (i : Int) (S : Sto) : F_is_whole [.int i] S = .ok (.bl true) S := sat_eq (by
  unfold F_is_whole b_is_whole
  simp -implicitDefEqProofs only [Fz.r_ok, Fz.r_stuck, Fz.r_ite, Fz.r_bind, Fz.r_fl, Fz.r_fl0, Fz.f_ite, Fz.x_nil, Fz.x_seq, Fz.x_expr, Fz.x_ret, Fz.x_retN, Fz.x_brk, Fz.x_cnt, Fz.x_stuck, Fz.x_if, Fz.x_asg, Fz.x_par2, Fz.x_par3, Fz.g_nm, Fz.g_nil, Fz.g_cons, Fz.g_tp, Fz.g_sb, Fz.g_set, Fz.e_var0, Fz.e_varS, Fz.e_c, Fz.e_1, Fz.e_2, Fz.e_n, Fz.e_gc, Fz.e_if, Fz.e_and, Fz.e_or, Fz.e_not, Fz.e_ch, Fz.e_sl, Fz.o_none, Fz.o_some, Fz.a_nil, Fz.a_cons, Fz.a_app, Fz.a_star, Fz.t_of, Fz.t_bl, Fz.t_not, Fz.t_and, Fz.t_or, Fz.t_yes, Fz.b_bl, Fz.u_bl, Fz.u_int, Fz.u_non, Fz.u_tup, Fz.u_frl, Fz.u_str, Fz.v_addI, Fz.v_addS, Fz.v_addT, Fz.v_subI, Fz.v_mulII, Fz.v_divI, Fz.v_modI, Fz.v_powI, Fz.v_shlI, Fz.v_shrI, Fz.v_negI, Fz.v_cmpI, Fz.v_tup, Fz.v_lst, Fz.v_absI, Fz.v_maxI, Fz.v_minI, Fz.v_intI, Fz.v_intB, Fz.v_gcdI, Fz.v_dmI, Fz.v_lenS, Fz.v_lenT, Fz.v_lenF, Fz.v_lenR, Fz.v_ixT, Fz.v_ixF, Fz.v_ixR, Fz.v_ixS, Fz.v_slT, Fz.v_slF, Fz.v_slR, Fz.v_slS, Fz.v_revS, Fz.v_eqS, Fz.v_neS, Fz.v_eqI, Fz.v_neI, Fz.v_eqT, Fz.v_neT, Fz.v_eqR, Fz.v_neR, Fz.v_inC, Fz.v_ninC, Fz.x_for, Fz.i_of, Fz.i_arg, Fz.s_tup, Fz.s_frl, Fz.s_str, Fz.s_ref, Fz.s_r1, Fz.s_r2, Fz.e_lc, Fz.r_nox, Fz.v_allR, Fz.v_anyR, Fz.v_sumR, Fz.i_int, Fz.s_starT, Fz.v_isiS, Fz.v_isiSI, Fz.v_isiI, Fz.v_isiIB, Fz.v_isiIS, Fz.v_isiIT, Fz.v_isiIL, Fz.v_isiT, Fz.v_isiTI, Fz.v_isiTL, Fz.v_eqF, Fz.v_neF, Fz.v_ixf0, Fz.v_ixf1, Fz.v_isif, Fz.v_lenf, Fz.v_reprP, Fz.e_m, Fz.v_appR, Fz.v_isB, Fz.v_isNN, Fz.v_isNI, Fz.v_isNT, Fz.v_isNF, Fz.v_isNR, Fz.v_notNN, Fz.v_notNI, Fz.v_notNT, Fz.v_notNF, Fz.v_notNR, Fz.v_tupleR, Fz.v_tupleT, Fz.v_tupleF, Fz.v_listR, Fz.v_listT, Fz.v_sumAT, Fz.v_sumAR, Fz.v_mulAI, Fz.v_mulAR, Fz.v_andI, Fz.s_r3, Fz.v_revR, Fz.g_tpf, Fz.v_eqB, Fz.v_neB, Fz.v_eqTI, Fz.g_tlR, Fz.v_joinR, Fz.v_mulAC, Fz.v_lr, Fz.c_F, Fz.d_F, Fz.if_false', Fz.if_true', Fz.cellQ_lst, Fz.optQ_some, Fz.atI_0, Fz.atI_1, Fz.atI_n, Fz.ixN_0, Fz.ixN_1, Fz.ixN_n, List.set_cons_succ, List.set_cons_zero, List.getElem?_cons_succ, List.getElem?_cons_zero, List.length_cons, List.length_nil, List.map_cons, List.map_nil, List.replicate_succ, List.replicate_zero, List.cons_append, List.nil_append, List.append_assoc, List.append_nil, Fz.permL, List.filterMap_cons, List.filterMap_nil, Fz.wipeD, List.length_set, List.set_set, Nat.reduceAdd, Nat.reduceLT, Nat.reduceLeDiff, Nat.reduceSub, Nat.reduceEqDiff, Int.reduceAdd, Int.reduceToNat, Int.reducePow, decide_eq_true_eq, if_true, if_false, ite_true, ite_false, true_and, and_true, not_false_eq_true, not_true_eq_false, false_and, and_false, Bool.false_eq_true, Bool.true_eq_false, Bool.not_true, Bool.not_false, Fz.set_at, Fz.gc_selfS, Fz.app_at, Fz.app_at0, Fz.app_lt, Fz.gc_appI, Fz.gc_appB, Fz.gc_appS, Fz.gc_appN, Fz.cutD_map, Fz.ints_int, List.flatten_cons, List.flatten_nil, Nat.add_assoc, Fz.mapO_fr, Fz.mapO_int, Fz.nr_frs, Fz.nr_ints, Fz.py_int, Fz.py_str, Fz.py_bl, Fz.py_non, Fz.py_tup, Fz.line0, Fz.lint0, Fz.line1, Fz.lint1, Fz.line2, Fz.lint2, Fz.line3, Fz.lint3, Fz.line4, Fz.lint4, Fz.line5, Fz.lint5, Fz.line6, Fz.lint6, Fz.line7, Fz.lint7, Fz.line8, Fz.lint8, Fz.line9, Fz.lint9, Fz.line10, Fz.lint10, Fz.line11, Fz.lint11, Fz.line12, Fz.lint12, Fz.line13, Fz.lint13, Fz.line14, Fz.lint14, Fz.line15, Fz.lint15, Fz.line16, Fz.lint16, Fz.line17, Fz.lint17, Fz.line18, Fz.lint18, Fz.line19, Fz.lint19, Fz.line20, Fz.lint20, Fz.line21, Fz.lint21, Fz.line22, Fz.lint22, Fz.line23, Fz.lint23, Fz.line24, Fz.lint24, Fz.set_atk, Fz.set_at0, Fz.optC_lst, Fz.py_fr, Fz.py_refC, Fz.ty_list, Fz.ty_str, Fz.nr_fr, Fz.gc_kS, Fz.gc_kI, Fz.gc_kB, Fz.cellNo, Fz.noRef.noRefs, Fz.noRef, List.all_cons, List.all_nil, List.take_succ_cons, List.take_zero, Nat.le_refl, Nat.reduceLeDiff, Fz.mapO, Option.map_some, Fz.eqQ_some, List.cons_beq_cons, Nat.reduceBEq, Nat.reduceBNe, Bool.and_true, Bool.true_and, Bool.false_and, Bool.and_false, beq_self_eq_true, Bool.or_true, Bool.true_or, Bool.or_false, Bool.false_or, Fz.bls_map, List.length_append])
theorem is_between_sat (i a b : Int) {S : Sto} {Q : D → Sto → Prop} : (F_is_between [.int i, .int a, .int b] S).sat Q = Q (.bl (decide (a ≤ i ∧ i ≤ b))) S := by
  unfold F_is_between b_is_between
  simp -implicitDefEqProofs only [Fz.r_ok, Fz.r_stuck, Fz.r_ite, Fz.r_bind, Fz.r_fl, Fz.r_fl0, Fz.f_ite, Fz.x_nil, Fz.x_seq, Fz.x_expr, Fz.x_ret, Fz.x_retN, Fz.x_brk, Fz.x_cnt, Fz.x_stuck, Fz.x_if, Fz.x_asg, Fz.x_par2, Fz.x_par3, Fz.g_nm, Fz.g_nil, Fz.g_cons, Fz.g_tp, Fz.g_sb, Fz.g_set, Fz.e_var0, Fz.e_varS, Fz.e_c, Fz.e_1, Fz.e_2, Fz.e_n, Fz.e_gc, Fz.e_if, Fz.e_and, Fz.e_or, Fz.e_not, Fz.e_ch, Fz.e_sl, Fz.o_none, Fz.o_some, Fz.a_nil, Fz.a_cons, Fz.a_app, Fz.a_star, Fz.t_of, Fz.t_bl, Fz.t_not, Fz.t_and, Fz.t_or, Fz.t_yes, Fz.b_bl, Fz.u_bl, Fz.u_int, Fz.u_non, Fz.u_tup, Fz.u_frl, Fz.u_str, Fz.v_addI, Fz.v_addS, Fz.v_addT, Fz.v_subI, Fz.v_mulII, Fz.v_divI, Fz.v_modI, Fz.v_powI, Fz.v_shlI, Fz.v_shrI, Fz.v_negI, Fz.v_cmpI, Fz.v_tup, Fz.v_lst, Fz.v_absI, Fz.v_maxI, Fz.v_minI, Fz.v_intI, Fz.v_intB, Fz.v_gcdI, Fz.v_dmI, Fz.v_lenS, Fz.v_lenT, Fz.v_lenF, Fz.v_lenR, Fz.v_ixT, Fz.v_ixF, Fz.v_ixR, Fz.v_ixS, Fz.v_slT, Fz.v_slF, Fz.v_slR, Fz.v_slS, Fz.v_revS, Fz.v_eqS, Fz.v_neS, Fz.v_eqI, Fz.v_neI, Fz.v_eqT, Fz.v_neT, Fz.v_eqR, Fz.v_neR, Fz.v_inC, Fz.v_ninC, Fz.x_for, Fz.i_of, Fz.i_arg, Fz.s_tup, Fz.s_frl, Fz.s_str, Fz.s_ref, Fz.s_r1, Fz.s_r2, Fz.e_lc, Fz.r_nox, Fz.v_allR, Fz.v_anyR, Fz.v_sumR, Fz.i_int, Fz.s_starT, Fz.v_isiS, Fz.v_isiSI, Fz.v_isiI, Fz.v_isiIB, Fz.v_isiIS, Fz.v_isiIT, Fz.v_isiIL, Fz.v_isiT, Fz.v_isiTI, Fz.v_isiTL, Fz.v_eqF, Fz.v_neF, Fz.v_ixf0, Fz.v_ixf1, Fz.v_isif, Fz.v_lenf, Fz.v_reprP, Fz.e_m, Fz.v_appR, Fz.v_isB, Fz.v_isNN, Fz.v_isNI, Fz.v_isNT, Fz.v_isNF, Fz.v_isNR, Fz.v_notNN, Fz.v_notNI, Fz.v_notNT, Fz.v_notNF, Fz.v_notNR, Fz.v_tupleR, Fz.v_tupleT, Fz.v_tupleF, Fz.v_listR, Fz.v_listT, Fz.v_sumAT, Fz.v_sumAR, Fz.v_mulAI, Fz.v_mulAR, Fz.v_andI, Fz.s_r3, Fz.v_revR, Fz.g_tpf, Fz.v_eqB, Fz.v_neB, Fz.v_eqTI, Fz.g_tlR, Fz.v_joinR, Fz.v_mulAC, Fz.v_lr, Fz.c_F, Fz.d_F, Fz.if_false', Fz.if_true', Fz.cellQ_lst, Fz.optQ_some, Fz.atI_0, Fz.atI_1, Fz.atI_n, Fz.ixN_0, Fz.ixN_1, Fz.ixN_n, List.set_cons_succ, List.set_cons_zero, List.getElem?_cons_succ, List.getElem?_cons_zero, List.length_cons, List.length_nil, List.map_cons, List.map_nil, List.replicate_succ, List.replicate_zero, List.cons_append, List.nil_append, List.append_assoc, List.append_nil, Fz.permL, List.filterMap_cons, List.filterMap_nil, Fz.wipeD, List.length_set, List.set_set, Nat.reduceAdd, Nat.reduceLT, Nat.reduceLeDiff, Nat.reduceSub, Nat.reduceEqDiff, Int.reduceAdd, Int.reduceToNat, Int.reducePow, decide_eq_true_eq, if_true, if_false, ite_true, ite_false, true_and, and_true, not_false_eq_true, not_true_eq_false, false_and, and_false, Bool.false_eq_true, Bool.true_eq_false, Bool.not_true, Bool.not_false, Fz.set_at, Fz.gc_selfS, Fz.app_at, Fz.app_at0, Fz.app_lt, Fz.gc_appI, Fz.gc_appB, Fz.gc_appS, Fz.gc_appN, Fz.cutD_map, Fz.ints_int, List.flatten_cons, List.flatten_nil, Nat.add_assoc, Fz.mapO_fr, Fz.mapO_int, Fz.nr_frs, Fz.nr_ints, Fz.py_int, Fz.py_str, Fz.py_bl, Fz.py_non, Fz.py_tup, Fz.line0, Fz.lint0, Fz.line1, Fz.lint1, Fz.line2, Fz.lint2, Fz.line3, Fz.lint3, Fz.line4, Fz.lint4, Fz.line5, Fz.lint5, Fz.line6, Fz.lint6, Fz.line7, Fz.lint7, Fz.line8, Fz.lint8, Fz.line9, Fz.lint9, Fz.line10, Fz.lint10, Fz.line11, Fz.lint11, Fz.line12, Fz.lint12, Fz.line13, Fz.lint13, Fz.line14, Fz.lint14, Fz.line15, Fz.lint15, Fz.line16, Fz.lint16, Fz.line17, Fz.lint17, Fz.line18, Fz.lint18, Fz.line19, Fz.lint19, Fz.line20, Fz.lint20, Fz.line21, Fz.lint21, Fz.line22, Fz.lint22, Fz.line23, Fz.lint23, Fz.line24, Fz.lint24, Fz.set_atk, Fz.set_at0, Fz.optC_lst, Fz.py_fr, Fz.py_refC, Fz.ty_list, Fz.ty_str, Fz.nr_fr, Fz.gc_kS, Fz.gc_kI, Fz.gc_kB, Fz.cellNo, Fz.noRef.noRefs, Fz.noRef, List.all_cons, List.all_nil, List.take_succ_cons, List.take_zero, Nat.le_refl, Nat.reduceLeDiff, Fz.mapO, Option.map_some, Fz.eqQ_some, List.cons_beq_cons, Nat.reduceBEq, Nat.reduceBNe, Bool.and_true, Bool.true_and, Bool.false_and, Bool.and_false, beq_self_eq_true, Bool.or_true, Bool.true_or, Bool.or_false, Bool.false_or, Fz.bls_map, List.length_append, is_whole_eq]
  by_cases h : a ≤ i
  · rw [if_pos h]
    by_cases k : i ≤ b <;> simp [h, k]
  · rw [if_neg h]; simp [h]
theorem is_tuple_of_sat (q : Int × Int) {S : Sto} {Q : D → Sto → Prop} : (F_is_tuple_of [fr q, .int 2] S).sat Q = Q (.bl true) S := by
  unfold F_is_tuple_of b_is_tuple_of
  simp -implicitDefEqProofs only [Fz.r_ok, Fz.r_stuck, Fz.r_ite, Fz.r_bind, Fz.r_fl, Fz.r_fl0, Fz.f_ite, Fz.x_nil, Fz.x_seq, Fz.x_expr, Fz.x_ret, Fz.x_retN, Fz.x_brk, Fz.x_cnt, Fz.x_stuck, Fz.x_if, Fz.x_asg, Fz.x_par2, Fz.x_par3, Fz.g_nm, Fz.g_nil, Fz.g_cons, Fz.g_tp, Fz.g_sb, Fz.g_set, Fz.e_var0, Fz.e_varS, Fz.e_c, Fz.e_1, Fz.e_2, Fz.e_n, Fz.e_gc, Fz.e_if, Fz.e_and, Fz.e_or, Fz.e_not, Fz.e_ch, Fz.e_sl, Fz.o_none, Fz.o_some, Fz.a_nil, Fz.a_cons, Fz.a_app, Fz.a_star, Fz.t_of, Fz.t_bl, Fz.t_not, Fz.t_and, Fz.t_or, Fz.t_yes, Fz.b_bl, Fz.u_bl, Fz.u_int, Fz.u_non, Fz.u_tup, Fz.u_frl, Fz.u_str, Fz.v_addI, Fz.v_addS, Fz.v_addT, Fz.v_subI, Fz.v_mulII, Fz.v_divI, Fz.v_modI, Fz.v_powI, Fz.v_shlI, Fz.v_shrI, Fz.v_negI, Fz.v_cmpI, Fz.v_tup, Fz.v_lst, Fz.v_absI, Fz.v_maxI, Fz.v_minI, Fz.v_intI, Fz.v_intB, Fz.v_gcdI, Fz.v_dmI, Fz.v_lenS, Fz.v_lenT, Fz.v_lenF, Fz.v_lenR, Fz.v_ixT, Fz.v_ixF, Fz.v_ixR, Fz.v_ixS, Fz.v_slT, Fz.v_slF, Fz.v_slR, Fz.v_slS, Fz.v_revS, Fz.v_eqS, Fz.v_neS, Fz.v_eqI, Fz.v_neI, Fz.v_eqT, Fz.v_neT, Fz.v_eqR, Fz.v_neR, Fz.v_inC, Fz.v_ninC, Fz.x_for, Fz.i_of, Fz.i_arg, Fz.s_tup, Fz.s_frl, Fz.s_str, Fz.s_ref, Fz.s_r1, Fz.s_r2, Fz.e_lc, Fz.r_nox, Fz.v_allR, Fz.v_anyR, Fz.v_sumR, Fz.i_int, Fz.s_starT, Fz.v_isiS, Fz.v_isiSI, Fz.v_isiI, Fz.v_isiIB, Fz.v_isiIS, Fz.v_isiIT, Fz.v_isiIL, Fz.v_isiT, Fz.v_isiTI, Fz.v_isiTL, Fz.v_eqF, Fz.v_neF, Fz.v_ixf0, Fz.v_ixf1, Fz.v_isif, Fz.v_lenf, Fz.v_reprP, Fz.e_m, Fz.v_appR, Fz.v_isB, Fz.v_isNN, Fz.v_isNI, Fz.v_isNT, Fz.v_isNF, Fz.v_isNR, Fz.v_notNN, Fz.v_notNI, Fz.v_notNT, Fz.v_notNF, Fz.v_notNR, Fz.v_tupleR, Fz.v_tupleT, Fz.v_tupleF, Fz.v_listR, Fz.v_listT, Fz.v_sumAT, Fz.v_sumAR, Fz.v_mulAI, Fz.v_mulAR, Fz.v_andI, Fz.s_r3, Fz.v_revR, Fz.g_tpf, Fz.v_eqB, Fz.v_neB, Fz.v_eqTI, Fz.g_tlR, Fz.v_joinR, Fz.v_mulAC, Fz.v_lr, Fz.c_F, Fz.d_F, Fz.if_false', Fz.if_true', Fz.cellQ_lst, Fz.optQ_some, Fz.atI_0, Fz.atI_1, Fz.atI_n, Fz.ixN_0, Fz.ixN_1, Fz.ixN_n, List.set_cons_succ, List.set_cons_zero, List.getElem?_cons_succ, List.getElem?_cons_zero, List.length_cons, List.length_nil, List.map_cons, List.map_nil, List.replicate_succ, List.replicate_zero, List.cons_append, List.nil_append, List.append_assoc, List.append_nil, Fz.permL, List.filterMap_cons, List.filterMap_nil, Fz.wipeD, List.length_set, List.set_set, Nat.reduceAdd, Nat.reduceLT, Nat.reduceLeDiff, Nat.reduceSub, Nat.reduceEqDiff, Int.reduceAdd, Int.reduceToNat, Int.reducePow, decide_eq_true_eq, if_true, if_false, ite_true, ite_false, true_and, and_true, not_false_eq_true, not_true_eq_false, false_and, and_false, Bool.false_eq_true, Bool.true_eq_false, Bool.not_true, Bool.not_false, Fz.set_at, Fz.gc_selfS, Fz.app_at, Fz.app_at0, Fz.app_lt, Fz.gc_appI, Fz.gc_appB, Fz.gc_appS, Fz.gc_appN, Fz.cutD_map, Fz.ints_int, List.flatten_cons, List.flatten_nil, Nat.add_assoc, Fz.mapO_fr, Fz.mapO_int, Fz.nr_frs, Fz.nr_ints, Fz.py_int, Fz.py_str, Fz.py_bl, Fz.py_non, Fz.py_tup, Fz.line0, Fz.lint0, Fz.line1, Fz.lint1, Fz.line2, Fz.lint2, Fz.line3, Fz.lint3, Fz.line4, Fz.lint4, Fz.line5, Fz.lint5, Fz.line6, Fz.lint6, Fz.line7, Fz.lint7, Fz.line8, Fz.lint8, Fz.line9, Fz.lint9, Fz.line10, Fz.lint10, Fz.line11, Fz.lint11, Fz.line12, Fz.lint12, Fz.line13, Fz.lint13, Fz.line14, Fz.lint14, Fz.line15, Fz.lint15, Fz.line16, Fz.lint16, Fz.line17, Fz.lint17, Fz.line18, Fz.lint18, Fz.line19, Fz.lint19, Fz.line20, Fz.lint20, Fz.line21, Fz.lint21, Fz.line22, Fz.lint22, Fz.line23, Fz.lint23, Fz.line24, Fz.lint24, Fz.set_atk, Fz.set_at0, Fz.optC_lst, Fz.py_fr, Fz.py_refC, Fz.ty_list, Fz.ty_str, Fz.nr_fr, Fz.gc_kS, Fz.gc_kI, Fz.gc_kB, Fz.cellNo, Fz.noRef.noRefs, Fz.noRef, List.all_cons, List.all_nil, List.take_succ_cons, List.take_zero, Nat.le_refl, Nat.reduceLeDiff, Fz.mapO, Option.map_some, Fz.eqQ_some, List.cons_beq_cons, Nat.reduceBEq, Nat.reduceBNe, Bool.and_true, Bool.true_and, Bool.false_and, Bool.and_false, beq_self_eq_true, Bool.or_true, Bool.true_or, Bool.or_false, Bool.false_or, Fz.bls_map, List.length_append]
theorem lowest_eq {a b : Int} {S : Sto} (hb : 0 < b) (hB : Bd 2000 b) : F_lowest [.int a, .int b] S = .ok (fr (red a b)) S := sat_eq (by
  have g := gI_pos (a := a) hb
  have gb : divOk (gI a b) := (gI_bd hb hB).div g
  unfold F_lowest b_lowest
  simp -implicitDefEqProofs only [Fz.r_ok, Fz.r_stuck, Fz.r_ite, Fz.r_bind, Fz.r_fl, Fz.r_fl0, Fz.f_ite, Fz.x_nil, Fz.x_seq, Fz.x_expr, Fz.x_ret, Fz.x_retN, Fz.x_brk, Fz.x_cnt, Fz.x_stuck, Fz.x_if, Fz.x_asg, Fz.x_par2, Fz.x_par3, Fz.g_nm, Fz.g_nil, Fz.g_cons, Fz.g_tp, Fz.g_sb, Fz.g_set, Fz.e_var0, Fz.e_varS, Fz.e_c, Fz.e_1, Fz.e_2, Fz.e_n, Fz.e_gc, Fz.e_if, Fz.e_and, Fz.e_or, Fz.e_not, Fz.e_ch, Fz.e_sl, Fz.o_none, Fz.o_some, Fz.a_nil, Fz.a_cons, Fz.a_app, Fz.a_star, Fz.t_of, Fz.t_bl, Fz.t_not, Fz.t_and, Fz.t_or, Fz.t_yes, Fz.b_bl, Fz.u_bl, Fz.u_int, Fz.u_non, Fz.u_tup, Fz.u_frl, Fz.u_str, Fz.v_addI, Fz.v_addS, Fz.v_addT, Fz.v_subI, Fz.v_mulII, Fz.v_divI, Fz.v_modI, Fz.v_powI, Fz.v_shlI, Fz.v_shrI, Fz.v_negI, Fz.v_cmpI, Fz.v_tup, Fz.v_lst, Fz.v_absI, Fz.v_maxI, Fz.v_minI, Fz.v_intI, Fz.v_intB, Fz.v_gcdI, Fz.v_dmI, Fz.v_lenS, Fz.v_lenT, Fz.v_lenF, Fz.v_lenR, Fz.v_ixT, Fz.v_ixF, Fz.v_ixR, Fz.v_ixS, Fz.v_slT, Fz.v_slF, Fz.v_slR, Fz.v_slS, Fz.v_revS, Fz.v_eqS, Fz.v_neS, Fz.v_eqI, Fz.v_neI, Fz.v_eqT, Fz.v_neT, Fz.v_eqR, Fz.v_neR, Fz.v_inC, Fz.v_ninC, Fz.x_for, Fz.i_of, Fz.i_arg, Fz.s_tup, Fz.s_frl, Fz.s_str, Fz.s_ref, Fz.s_r1, Fz.s_r2, Fz.e_lc, Fz.r_nox, Fz.v_allR, Fz.v_anyR, Fz.v_sumR, Fz.i_int, Fz.s_starT, Fz.v_isiS, Fz.v_isiSI, Fz.v_isiI, Fz.v_isiIB, Fz.v_isiIS, Fz.v_isiIT, Fz.v_isiIL, Fz.v_isiT, Fz.v_isiTI, Fz.v_isiTL, Fz.v_eqF, Fz.v_neF, Fz.v_ixf0, Fz.v_ixf1, Fz.v_isif, Fz.v_lenf, Fz.v_reprP, Fz.e_m, Fz.v_appR, Fz.v_isB, Fz.v_isNN, Fz.v_isNI, Fz.v_isNT, Fz.v_isNF, Fz.v_isNR, Fz.v_notNN, Fz.v_notNI, Fz.v_notNT, Fz.v_notNF, Fz.v_notNR, Fz.v_tupleR, Fz.v_tupleT, Fz.v_tupleF, Fz.v_listR, Fz.v_listT, Fz.v_sumAT, Fz.v_sumAR, Fz.v_mulAI, Fz.v_mulAR, Fz.v_andI, Fz.s_r3, Fz.v_revR, Fz.g_tpf, Fz.v_eqB, Fz.v_neB, Fz.v_eqTI, Fz.g_tlR, Fz.v_joinR, Fz.v_mulAC, Fz.v_lr, Fz.c_F, Fz.d_F, Fz.if_false', Fz.if_true', Fz.cellQ_lst, Fz.optQ_some, Fz.atI_0, Fz.atI_1, Fz.atI_n, Fz.ixN_0, Fz.ixN_1, Fz.ixN_n, List.set_cons_succ, List.set_cons_zero, List.getElem?_cons_succ, List.getElem?_cons_zero, List.length_cons, List.length_nil, List.map_cons, List.map_nil, List.replicate_succ, List.replicate_zero, List.cons_append, List.nil_append, List.append_assoc, List.append_nil, Fz.permL, List.filterMap_cons, List.filterMap_nil, Fz.wipeD, List.length_set, List.set_set, Nat.reduceAdd, Nat.reduceLT, Nat.reduceLeDiff, Nat.reduceSub, Nat.reduceEqDiff, Int.reduceAdd, Int.reduceToNat, Int.reducePow, decide_eq_true_eq, if_true, if_false, ite_true, ite_false, true_and, and_true, not_false_eq_true, not_true_eq_false, false_and, and_false, Bool.false_eq_true, Bool.true_eq_false, Bool.not_true, Bool.not_false, Fz.set_at, Fz.gc_selfS, Fz.app_at, Fz.app_at0, Fz.app_lt, Fz.gc_appI, Fz.gc_appB, Fz.gc_appS, Fz.gc_appN, Fz.cutD_map, Fz.ints_int, List.flatten_cons, List.flatten_nil, Nat.add_assoc, Fz.mapO_fr, Fz.mapO_int, Fz.nr_frs, Fz.nr_ints, Fz.py_int, Fz.py_str, Fz.py_bl, Fz.py_non, Fz.py_tup, Fz.line0, Fz.lint0, Fz.line1, Fz.lint1, Fz.line2, Fz.lint2, Fz.line3, Fz.lint3, Fz.line4, Fz.lint4, Fz.line5, Fz.lint5, Fz.line6, Fz.lint6, Fz.line7, Fz.lint7, Fz.line8, Fz.lint8, Fz.line9, Fz.lint9, Fz.line10, Fz.lint10, Fz.line11, Fz.lint11, Fz.line12, Fz.lint12, Fz.line13, Fz.lint13, Fz.line14, Fz.lint14, Fz.line15, Fz.lint15, Fz.line16, Fz.lint16, Fz.line17, Fz.lint17, Fz.line18, Fz.lint18, Fz.line19, Fz.lint19, Fz.line20, Fz.lint20, Fz.line21, Fz.lint21, Fz.line22, Fz.lint22, Fz.line23, Fz.lint23, Fz.line24, Fz.lint24, Fz.set_atk, Fz.set_at0, Fz.optC_lst, Fz.py_fr, Fz.py_refC, Fz.ty_list, Fz.ty_str, Fz.nr_fr, Fz.gc_kS, Fz.gc_kI, Fz.gc_kB, Fz.cellNo, Fz.noRef.noRefs, Fz.noRef, List.all_cons, List.all_nil, List.take_succ_cons, List.take_zero, Nat.le_refl, Nat.reduceLeDiff, Fz.mapO, Option.map_some, Fz.eqQ_some, List.cons_beq_cons, Nat.reduceBEq, Nat.reduceBNe, Bool.and_true, Bool.true_and, Bool.false_and, Bool.and_false, beq_self_eq_true, Bool.or_true, Bool.true_or, Bool.or_false, Bool.false_or, Fz.bls_map, List.length_append]
  rw [if_pos hb]
  exact ⟨gb, gb, rfl⟩)
theorem less_by_eq {x y : Int × Int} {n : Nat} {S : Sto} (hx : Frq n x) (hy : Frq n y) (hn : 0 < n) (hn2 : n ≤ 900) : F_less_by [fr x, fr y] S = .ok (fr (red (x.1 * y.2 - y.1 * x.2) (x.2 * y.2))) S := sat_eq (by
  have ok : ∀ {i j : Int}, Bd n i → Bd n j → mulOk i j := fun h k => h.ok k ⟨hn, hn, by omega⟩
  unfold F_less_by b_less_by
  simp -implicitDefEqProofs only [Fz.r_ok, Fz.r_stuck, Fz.r_ite, Fz.r_bind, Fz.r_fl, Fz.r_fl0, Fz.f_ite, Fz.x_nil, Fz.x_seq, Fz.x_expr, Fz.x_ret, Fz.x_retN, Fz.x_brk, Fz.x_cnt, Fz.x_stuck, Fz.x_if, Fz.x_asg, Fz.x_par2, Fz.x_par3, Fz.g_nm, Fz.g_nil, Fz.g_cons, Fz.g_tp, Fz.g_sb, Fz.g_set, Fz.e_var0, Fz.e_varS, Fz.e_c, Fz.e_1, Fz.e_2, Fz.e_n, Fz.e_gc, Fz.e_if, Fz.e_and, Fz.e_or, Fz.e_not, Fz.e_ch, Fz.e_sl, Fz.o_none, Fz.o_some, Fz.a_nil, Fz.a_cons, Fz.a_app, Fz.a_star, Fz.t_of, Fz.t_bl, Fz.t_not, Fz.t_and, Fz.t_or, Fz.t_yes, Fz.b_bl, Fz.u_bl, Fz.u_int, Fz.u_non, Fz.u_tup, Fz.u_frl, Fz.u_str, Fz.v_addI, Fz.v_addS, Fz.v_addT, Fz.v_subI, Fz.v_mulII, Fz.v_divI, Fz.v_modI, Fz.v_powI, Fz.v_shlI, Fz.v_shrI, Fz.v_negI, Fz.v_cmpI, Fz.v_tup, Fz.v_lst, Fz.v_absI, Fz.v_maxI, Fz.v_minI, Fz.v_intI, Fz.v_intB, Fz.v_gcdI, Fz.v_dmI, Fz.v_lenS, Fz.v_lenT, Fz.v_lenF, Fz.v_lenR, Fz.v_ixT, Fz.v_ixF, Fz.v_ixR, Fz.v_ixS, Fz.v_slT, Fz.v_slF, Fz.v_slR, Fz.v_slS, Fz.v_revS, Fz.v_eqS, Fz.v_neS, Fz.v_eqI, Fz.v_neI, Fz.v_eqT, Fz.v_neT, Fz.v_eqR, Fz.v_neR, Fz.v_inC, Fz.v_ninC, Fz.x_for, Fz.i_of, Fz.i_arg, Fz.s_tup, Fz.s_frl, Fz.s_str, Fz.s_ref, Fz.s_r1, Fz.s_r2, Fz.e_lc, Fz.r_nox, Fz.v_allR, Fz.v_anyR, Fz.v_sumR, Fz.i_int, Fz.s_starT, Fz.v_isiS, Fz.v_isiSI, Fz.v_isiI, Fz.v_isiIB, Fz.v_isiIS, Fz.v_isiIT, Fz.v_isiIL, Fz.v_isiT, Fz.v_isiTI, Fz.v_isiTL, Fz.v_eqF, Fz.v_neF, Fz.v_ixf0, Fz.v_ixf1, Fz.v_isif, Fz.v_lenf, Fz.v_reprP, Fz.e_m, Fz.v_appR, Fz.v_isB, Fz.v_isNN, Fz.v_isNI, Fz.v_isNT, Fz.v_isNF, Fz.v_isNR, Fz.v_notNN, Fz.v_notNI, Fz.v_notNT, Fz.v_notNF, Fz.v_notNR, Fz.v_tupleR, Fz.v_tupleT, Fz.v_tupleF, Fz.v_listR, Fz.v_listT, Fz.v_sumAT, Fz.v_sumAR, Fz.v_mulAI, Fz.v_mulAR, Fz.v_andI, Fz.s_r3, Fz.v_revR, Fz.g_tpf, Fz.v_eqB, Fz.v_neB, Fz.v_eqTI, Fz.g_tlR, Fz.v_joinR, Fz.v_mulAC, Fz.v_lr, Fz.c_F, Fz.d_F, Fz.if_false', Fz.if_true', Fz.cellQ_lst, Fz.optQ_some, Fz.atI_0, Fz.atI_1, Fz.atI_n, Fz.ixN_0, Fz.ixN_1, Fz.ixN_n, List.set_cons_succ, List.set_cons_zero, List.getElem?_cons_succ, List.getElem?_cons_zero, List.length_cons, List.length_nil, List.map_cons, List.map_nil, List.replicate_succ, List.replicate_zero, List.cons_append, List.nil_append, List.append_assoc, List.append_nil, Fz.permL, List.filterMap_cons, List.filterMap_nil, Fz.wipeD, List.length_set, List.set_set, Nat.reduceAdd, Nat.reduceLT, Nat.reduceLeDiff, Nat.reduceSub, Nat.reduceEqDiff, Int.reduceAdd, Int.reduceToNat, Int.reducePow, decide_eq_true_eq, if_true, if_false, ite_true, ite_false, true_and, and_true, not_false_eq_true, not_true_eq_false, false_and, and_false, Bool.false_eq_true, Bool.true_eq_false, Bool.not_true, Bool.not_false, Fz.set_at, Fz.gc_selfS, Fz.app_at, Fz.app_at0, Fz.app_lt, Fz.gc_appI, Fz.gc_appB, Fz.gc_appS, Fz.gc_appN, Fz.cutD_map, Fz.ints_int, List.flatten_cons, List.flatten_nil, Nat.add_assoc, Fz.mapO_fr, Fz.mapO_int, Fz.nr_frs, Fz.nr_ints, Fz.py_int, Fz.py_str, Fz.py_bl, Fz.py_non, Fz.py_tup, Fz.line0, Fz.lint0, Fz.line1, Fz.lint1, Fz.line2, Fz.lint2, Fz.line3, Fz.lint3, Fz.line4, Fz.lint4, Fz.line5, Fz.lint5, Fz.line6, Fz.lint6, Fz.line7, Fz.lint7, Fz.line8, Fz.lint8, Fz.line9, Fz.lint9, Fz.line10, Fz.lint10, Fz.line11, Fz.lint11, Fz.line12, Fz.lint12, Fz.line13, Fz.lint13, Fz.line14, Fz.lint14, Fz.line15, Fz.lint15, Fz.line16, Fz.lint16, Fz.line17, Fz.lint17, Fz.line18, Fz.lint18, Fz.line19, Fz.lint19, Fz.line20, Fz.lint20, Fz.line21, Fz.lint21, Fz.line22, Fz.lint22, Fz.line23, Fz.lint23, Fz.line24, Fz.lint24, Fz.set_atk, Fz.set_at0, Fz.optC_lst, Fz.py_fr, Fz.py_refC, Fz.ty_list, Fz.ty_str, Fz.nr_fr, Fz.gc_kS, Fz.gc_kI, Fz.gc_kB, Fz.cellNo, Fz.noRef.noRefs, Fz.noRef, List.all_cons, List.all_nil, List.take_succ_cons, List.take_zero, Nat.le_refl, Nat.reduceLeDiff, Fz.mapO, Option.map_some, Fz.eqQ_some, List.cons_beq_cons, Nat.reduceBEq, Nat.reduceBNe, Bool.and_true, Bool.true_and, Bool.false_and, Bool.and_false, beq_self_eq_true, Bool.or_true, Bool.true_or, Bool.or_false, Bool.false_or, Fz.bls_map, List.length_append]
  rw [lowest_eq (Int.mul_pos hx.2.2 hy.2.2) ((hx.2.1.mul hy.2.1).mono (by omega))]
  simp -implicitDefEqProofs only [Fz.r_ok, Fz.r_stuck, Fz.r_ite, Fz.r_bind, Fz.r_fl, Fz.r_fl0, Fz.f_ite, Fz.x_nil, Fz.x_seq, Fz.x_expr, Fz.x_ret, Fz.x_retN, Fz.x_brk, Fz.x_cnt, Fz.x_stuck, Fz.x_if, Fz.x_asg, Fz.x_par2, Fz.x_par3, Fz.g_nm, Fz.g_nil, Fz.g_cons, Fz.g_tp, Fz.g_sb, Fz.g_set, Fz.e_var0, Fz.e_varS, Fz.e_c, Fz.e_1, Fz.e_2, Fz.e_n, Fz.e_gc, Fz.e_if, Fz.e_and, Fz.e_or, Fz.e_not, Fz.e_ch, Fz.e_sl, Fz.o_none, Fz.o_some, Fz.a_nil, Fz.a_cons, Fz.a_app, Fz.a_star, Fz.t_of, Fz.t_bl, Fz.t_not, Fz.t_and, Fz.t_or, Fz.t_yes, Fz.b_bl, Fz.u_bl, Fz.u_int, Fz.u_non, Fz.u_tup, Fz.u_frl, Fz.u_str, Fz.v_addI, Fz.v_addS, Fz.v_addT, Fz.v_subI, Fz.v_mulII, Fz.v_divI, Fz.v_modI, Fz.v_powI, Fz.v_shlI, Fz.v_shrI, Fz.v_negI, Fz.v_cmpI, Fz.v_tup, Fz.v_lst, Fz.v_absI, Fz.v_maxI, Fz.v_minI, Fz.v_intI, Fz.v_intB, Fz.v_gcdI, Fz.v_dmI, Fz.v_lenS, Fz.v_lenT, Fz.v_lenF, Fz.v_lenR, Fz.v_ixT, Fz.v_ixF, Fz.v_ixR, Fz.v_ixS, Fz.v_slT, Fz.v_slF, Fz.v_slR, Fz.v_slS, Fz.v_revS, Fz.v_eqS, Fz.v_neS, Fz.v_eqI, Fz.v_neI, Fz.v_eqT, Fz.v_neT, Fz.v_eqR, Fz.v_neR, Fz.v_inC, Fz.v_ninC, Fz.x_for, Fz.i_of, Fz.i_arg, Fz.s_tup, Fz.s_frl, Fz.s_str, Fz.s_ref, Fz.s_r1, Fz.s_r2, Fz.e_lc, Fz.r_nox, Fz.v_allR, Fz.v_anyR, Fz.v_sumR, Fz.i_int, Fz.s_starT, Fz.v_isiS, Fz.v_isiSI, Fz.v_isiI, Fz.v_isiIB, Fz.v_isiIS, Fz.v_isiIT, Fz.v_isiIL, Fz.v_isiT, Fz.v_isiTI, Fz.v_isiTL, Fz.v_eqF, Fz.v_neF, Fz.v_ixf0, Fz.v_ixf1, Fz.v_isif, Fz.v_lenf, Fz.v_reprP, Fz.e_m, Fz.v_appR, Fz.v_isB, Fz.v_isNN, Fz.v_isNI, Fz.v_isNT, Fz.v_isNF, Fz.v_isNR, Fz.v_notNN, Fz.v_notNI, Fz.v_notNT, Fz.v_notNF, Fz.v_notNR, Fz.v_tupleR, Fz.v_tupleT, Fz.v_tupleF, Fz.v_listR, Fz.v_listT, Fz.v_sumAT, Fz.v_sumAR, Fz.v_mulAI, Fz.v_mulAR, Fz.v_andI, Fz.s_r3, Fz.v_revR, Fz.g_tpf, Fz.v_eqB, Fz.v_neB, Fz.v_eqTI, Fz.g_tlR, Fz.v_joinR, Fz.v_mulAC, Fz.v_lr, Fz.c_F, Fz.d_F, Fz.if_false', Fz.if_true', Fz.cellQ_lst, Fz.optQ_some, Fz.atI_0, Fz.atI_1, Fz.atI_n, Fz.ixN_0, Fz.ixN_1, Fz.ixN_n, List.set_cons_succ, List.set_cons_zero, List.getElem?_cons_succ, List.getElem?_cons_zero, List.length_cons, List.length_nil, List.map_cons, List.map_nil, List.replicate_succ, List.replicate_zero, List.cons_append, List.nil_append, List.append_assoc, List.append_nil, Fz.permL, List.filterMap_cons, List.filterMap_nil, Fz.wipeD, List.length_set, List.set_set, Nat.reduceAdd, Nat.reduceLT, Nat.reduceLeDiff, Nat.reduceSub, Nat.reduceEqDiff, Int.reduceAdd, Int.reduceToNat, Int.reducePow, decide_eq_true_eq, if_true, if_false, ite_true, ite_false, true_and, and_true, not_false_eq_true, not_true_eq_false, false_and, and_false, Bool.false_eq_true, Bool.true_eq_false, Bool.not_true, Bool.not_false, Fz.set_at, Fz.gc_selfS, Fz.app_at, Fz.app_at0, Fz.app_lt, Fz.gc_appI, Fz.gc_appB, Fz.gc_appS, Fz.gc_appN, Fz.cutD_map, Fz.ints_int, List.flatten_cons, List.flatten_nil, Nat.add_assoc, Fz.mapO_fr, Fz.mapO_int, Fz.nr_frs, Fz.nr_ints, Fz.py_int, Fz.py_str, Fz.py_bl, Fz.py_non, Fz.py_tup, Fz.line0, Fz.lint0, Fz.line1, Fz.lint1, Fz.line2, Fz.lint2, Fz.line3, Fz.lint3, Fz.line4, Fz.lint4, Fz.line5, Fz.lint5, Fz.line6, Fz.lint6, Fz.line7, Fz.lint7, Fz.line8, Fz.lint8, Fz.line9, Fz.lint9, Fz.line10, Fz.lint10, Fz.line11, Fz.lint11, Fz.line12, Fz.lint12, Fz.line13, Fz.lint13, Fz.line14, Fz.lint14, Fz.line15, Fz.lint15, Fz.line16, Fz.lint16, Fz.line17, Fz.lint17, Fz.line18, Fz.lint18, Fz.line19, Fz.lint19, Fz.line20, Fz.lint20, Fz.line21, Fz.lint21, Fz.line22, Fz.lint22, Fz.line23, Fz.lint23, Fz.line24, Fz.lint24, Fz.set_atk, Fz.set_at0, Fz.optC_lst, Fz.py_fr, Fz.py_refC, Fz.ty_list, Fz.ty_str, Fz.nr_fr, Fz.gc_kS, Fz.gc_kI, Fz.gc_kB, Fz.cellNo, Fz.noRef.noRefs, Fz.noRef, List.all_cons, List.all_nil, List.take_succ_cons, List.take_zero, Nat.le_refl, Nat.reduceLeDiff, Fz.mapO, Option.map_some, Fz.eqQ_some, List.cons_beq_cons, Nat.reduceBEq, Nat.reduceBNe, Bool.and_true, Bool.true_and, Bool.false_and, Bool.and_false, beq_self_eq_true, Bool.or_true, Bool.true_or, Bool.or_false, Bool.false_or, Fz.bls_map, List.length_append]
  exact ⟨ok hx.1 hy.2.1, ok hy.1 hx.2.1, ok hx.2.1 hy.2.1⟩)
theorem is_given_eq {q : Int × Int} {S : Sto} (h : Gv q) : F_is_given [fr q] S = .ok (.bl true) S := sat_eq (by
  obtain ⟨h1, h2, h3, h4, h5⟩ := h
  unfold F_is_given b_is_given
  simp -implicitDefEqProofs only [Fz.r_ok, Fz.r_stuck, Fz.r_ite, Fz.r_bind, Fz.r_fl, Fz.r_fl0, Fz.f_ite, Fz.x_nil, Fz.x_seq, Fz.x_expr, Fz.x_ret, Fz.x_retN, Fz.x_brk, Fz.x_cnt, Fz.x_stuck, Fz.x_if, Fz.x_asg, Fz.x_par2, Fz.x_par3, Fz.g_nm, Fz.g_nil, Fz.g_cons, Fz.g_tp, Fz.g_sb, Fz.g_set, Fz.e_var0, Fz.e_varS, Fz.e_c, Fz.e_1, Fz.e_2, Fz.e_n, Fz.e_gc, Fz.e_if, Fz.e_and, Fz.e_or, Fz.e_not, Fz.e_ch, Fz.e_sl, Fz.o_none, Fz.o_some, Fz.a_nil, Fz.a_cons, Fz.a_app, Fz.a_star, Fz.t_of, Fz.t_bl, Fz.t_not, Fz.t_and, Fz.t_or, Fz.t_yes, Fz.b_bl, Fz.u_bl, Fz.u_int, Fz.u_non, Fz.u_tup, Fz.u_frl, Fz.u_str, Fz.v_addI, Fz.v_addS, Fz.v_addT, Fz.v_subI, Fz.v_mulII, Fz.v_divI, Fz.v_modI, Fz.v_powI, Fz.v_shlI, Fz.v_shrI, Fz.v_negI, Fz.v_cmpI, Fz.v_tup, Fz.v_lst, Fz.v_absI, Fz.v_maxI, Fz.v_minI, Fz.v_intI, Fz.v_intB, Fz.v_gcdI, Fz.v_dmI, Fz.v_lenS, Fz.v_lenT, Fz.v_lenF, Fz.v_lenR, Fz.v_ixT, Fz.v_ixF, Fz.v_ixR, Fz.v_ixS, Fz.v_slT, Fz.v_slF, Fz.v_slR, Fz.v_slS, Fz.v_revS, Fz.v_eqS, Fz.v_neS, Fz.v_eqI, Fz.v_neI, Fz.v_eqT, Fz.v_neT, Fz.v_eqR, Fz.v_neR, Fz.v_inC, Fz.v_ninC, Fz.x_for, Fz.i_of, Fz.i_arg, Fz.s_tup, Fz.s_frl, Fz.s_str, Fz.s_ref, Fz.s_r1, Fz.s_r2, Fz.e_lc, Fz.r_nox, Fz.v_allR, Fz.v_anyR, Fz.v_sumR, Fz.i_int, Fz.s_starT, Fz.v_isiS, Fz.v_isiSI, Fz.v_isiI, Fz.v_isiIB, Fz.v_isiIS, Fz.v_isiIT, Fz.v_isiIL, Fz.v_isiT, Fz.v_isiTI, Fz.v_isiTL, Fz.v_eqF, Fz.v_neF, Fz.v_ixf0, Fz.v_ixf1, Fz.v_isif, Fz.v_lenf, Fz.v_reprP, Fz.e_m, Fz.v_appR, Fz.v_isB, Fz.v_isNN, Fz.v_isNI, Fz.v_isNT, Fz.v_isNF, Fz.v_isNR, Fz.v_notNN, Fz.v_notNI, Fz.v_notNT, Fz.v_notNF, Fz.v_notNR, Fz.v_tupleR, Fz.v_tupleT, Fz.v_tupleF, Fz.v_listR, Fz.v_listT, Fz.v_sumAT, Fz.v_sumAR, Fz.v_mulAI, Fz.v_mulAR, Fz.v_andI, Fz.s_r3, Fz.v_revR, Fz.g_tpf, Fz.v_eqB, Fz.v_neB, Fz.v_eqTI, Fz.g_tlR, Fz.v_joinR, Fz.v_mulAC, Fz.v_lr, Fz.c_F, Fz.d_F, Fz.if_false', Fz.if_true', Fz.cellQ_lst, Fz.optQ_some, Fz.atI_0, Fz.atI_1, Fz.atI_n, Fz.ixN_0, Fz.ixN_1, Fz.ixN_n, List.set_cons_succ, List.set_cons_zero, List.getElem?_cons_succ, List.getElem?_cons_zero, List.length_cons, List.length_nil, List.map_cons, List.map_nil, List.replicate_succ, List.replicate_zero, List.cons_append, List.nil_append, List.append_assoc, List.append_nil, Fz.permL, List.filterMap_cons, List.filterMap_nil, Fz.wipeD, List.length_set, List.set_set, Nat.reduceAdd, Nat.reduceLT, Nat.reduceLeDiff, Nat.reduceSub, Nat.reduceEqDiff, Int.reduceAdd, Int.reduceToNat, Int.reducePow, decide_eq_true_eq, if_true, if_false, ite_true, ite_false, true_and, and_true, not_false_eq_true, not_true_eq_false, false_and, and_false, Bool.false_eq_true, Bool.true_eq_false, Bool.not_true, Bool.not_false, Fz.set_at, Fz.gc_selfS, Fz.app_at, Fz.app_at0, Fz.app_lt, Fz.gc_appI, Fz.gc_appB, Fz.gc_appS, Fz.gc_appN, Fz.cutD_map, Fz.ints_int, List.flatten_cons, List.flatten_nil, Nat.add_assoc, Fz.mapO_fr, Fz.mapO_int, Fz.nr_frs, Fz.nr_ints, Fz.py_int, Fz.py_str, Fz.py_bl, Fz.py_non, Fz.py_tup, Fz.line0, Fz.lint0, Fz.line1, Fz.lint1, Fz.line2, Fz.lint2, Fz.line3, Fz.lint3, Fz.line4, Fz.lint4, Fz.line5, Fz.lint5, Fz.line6, Fz.lint6, Fz.line7, Fz.lint7, Fz.line8, Fz.lint8, Fz.line9, Fz.lint9, Fz.line10, Fz.lint10, Fz.line11, Fz.lint11, Fz.line12, Fz.lint12, Fz.line13, Fz.lint13, Fz.line14, Fz.lint14, Fz.line15, Fz.lint15, Fz.line16, Fz.lint16, Fz.line17, Fz.lint17, Fz.line18, Fz.lint18, Fz.line19, Fz.lint19, Fz.line20, Fz.lint20, Fz.line21, Fz.lint21, Fz.line22, Fz.lint22, Fz.line23, Fz.lint23, Fz.line24, Fz.lint24, Fz.set_atk, Fz.set_at0, Fz.optC_lst, Fz.py_fr, Fz.py_refC, Fz.ty_list, Fz.ty_str, Fz.nr_fr, Fz.gc_kS, Fz.gc_kI, Fz.gc_kB, Fz.cellNo, Fz.noRef.noRefs, Fz.noRef, List.all_cons, List.all_nil, List.take_succ_cons, List.take_zero, Nat.le_refl, Nat.reduceLeDiff, Fz.mapO, Option.map_some, Fz.eqQ_some, List.cons_beq_cons, Nat.reduceBEq, Nat.reduceBNe, Bool.and_true, Bool.true_and, Bool.false_and, Bool.and_false, beq_self_eq_true, Bool.or_true, Bool.true_or, Bool.or_false, Bool.false_or, Fz.bls_map, List.length_append, is_tuple_of_sat, is_between_sat, k_MOST_NUMBER, h5]
  simp [h1, h2, h3, h4])
theorem law_frac_eq {t l : Int} {S : Sto} (hl : 0 < l) (hB : Bd 1000 l) : F__law_frac [.int t, .int l] S = .ok (fr (red t l)) S := sat_eq (by
  unfold F__law_frac b__law_frac
  simp -implicitDefEqProofs only [Fz.r_ok, Fz.r_stuck, Fz.r_ite, Fz.r_bind, Fz.r_fl, Fz.r_fl0, Fz.f_ite, Fz.x_nil, Fz.x_seq, Fz.x_expr, Fz.x_ret, Fz.x_retN, Fz.x_brk, Fz.x_cnt, Fz.x_stuck, Fz.x_if, Fz.x_asg, Fz.x_par2, Fz.x_par3, Fz.g_nm, Fz.g_nil, Fz.g_cons, Fz.g_tp, Fz.g_sb, Fz.g_set, Fz.e_var0, Fz.e_varS, Fz.e_c, Fz.e_1, Fz.e_2, Fz.e_n, Fz.e_gc, Fz.e_if, Fz.e_and, Fz.e_or, Fz.e_not, Fz.e_ch, Fz.e_sl, Fz.o_none, Fz.o_some, Fz.a_nil, Fz.a_cons, Fz.a_app, Fz.a_star, Fz.t_of, Fz.t_bl, Fz.t_not, Fz.t_and, Fz.t_or, Fz.t_yes, Fz.b_bl, Fz.u_bl, Fz.u_int, Fz.u_non, Fz.u_tup, Fz.u_frl, Fz.u_str, Fz.v_addI, Fz.v_addS, Fz.v_addT, Fz.v_subI, Fz.v_mulII, Fz.v_divI, Fz.v_modI, Fz.v_powI, Fz.v_shlI, Fz.v_shrI, Fz.v_negI, Fz.v_cmpI, Fz.v_tup, Fz.v_lst, Fz.v_absI, Fz.v_maxI, Fz.v_minI, Fz.v_intI, Fz.v_intB, Fz.v_gcdI, Fz.v_dmI, Fz.v_lenS, Fz.v_lenT, Fz.v_lenF, Fz.v_lenR, Fz.v_ixT, Fz.v_ixF, Fz.v_ixR, Fz.v_ixS, Fz.v_slT, Fz.v_slF, Fz.v_slR, Fz.v_slS, Fz.v_revS, Fz.v_eqS, Fz.v_neS, Fz.v_eqI, Fz.v_neI, Fz.v_eqT, Fz.v_neT, Fz.v_eqR, Fz.v_neR, Fz.v_inC, Fz.v_ninC, Fz.x_for, Fz.i_of, Fz.i_arg, Fz.s_tup, Fz.s_frl, Fz.s_str, Fz.s_ref, Fz.s_r1, Fz.s_r2, Fz.e_lc, Fz.r_nox, Fz.v_allR, Fz.v_anyR, Fz.v_sumR, Fz.i_int, Fz.s_starT, Fz.v_isiS, Fz.v_isiSI, Fz.v_isiI, Fz.v_isiIB, Fz.v_isiIS, Fz.v_isiIT, Fz.v_isiIL, Fz.v_isiT, Fz.v_isiTI, Fz.v_isiTL, Fz.v_eqF, Fz.v_neF, Fz.v_ixf0, Fz.v_ixf1, Fz.v_isif, Fz.v_lenf, Fz.v_reprP, Fz.e_m, Fz.v_appR, Fz.v_isB, Fz.v_isNN, Fz.v_isNI, Fz.v_isNT, Fz.v_isNF, Fz.v_isNR, Fz.v_notNN, Fz.v_notNI, Fz.v_notNT, Fz.v_notNF, Fz.v_notNR, Fz.v_tupleR, Fz.v_tupleT, Fz.v_tupleF, Fz.v_listR, Fz.v_listT, Fz.v_sumAT, Fz.v_sumAR, Fz.v_mulAI, Fz.v_mulAR, Fz.v_andI, Fz.s_r3, Fz.v_revR, Fz.g_tpf, Fz.v_eqB, Fz.v_neB, Fz.v_eqTI, Fz.g_tlR, Fz.v_joinR, Fz.v_mulAC, Fz.v_lr, Fz.c_F, Fz.d_F, Fz.if_false', Fz.if_true', Fz.cellQ_lst, Fz.optQ_some, Fz.atI_0, Fz.atI_1, Fz.atI_n, Fz.ixN_0, Fz.ixN_1, Fz.ixN_n, List.set_cons_succ, List.set_cons_zero, List.getElem?_cons_succ, List.getElem?_cons_zero, List.length_cons, List.length_nil, List.map_cons, List.map_nil, List.replicate_succ, List.replicate_zero, List.cons_append, List.nil_append, List.append_assoc, List.append_nil, Fz.permL, List.filterMap_cons, List.filterMap_nil, Fz.wipeD, List.length_set, List.set_set, Nat.reduceAdd, Nat.reduceLT, Nat.reduceLeDiff, Nat.reduceSub, Nat.reduceEqDiff, Int.reduceAdd, Int.reduceToNat, Int.reducePow, decide_eq_true_eq, if_true, if_false, ite_true, ite_false, true_and, and_true, not_false_eq_true, not_true_eq_false, false_and, and_false, Bool.false_eq_true, Bool.true_eq_false, Bool.not_true, Bool.not_false, Fz.set_at, Fz.gc_selfS, Fz.app_at, Fz.app_at0, Fz.app_lt, Fz.gc_appI, Fz.gc_appB, Fz.gc_appS, Fz.gc_appN, Fz.cutD_map, Fz.ints_int, List.flatten_cons, List.flatten_nil, Nat.add_assoc, Fz.mapO_fr, Fz.mapO_int, Fz.nr_frs, Fz.nr_ints, Fz.py_int, Fz.py_str, Fz.py_bl, Fz.py_non, Fz.py_tup, Fz.line0, Fz.lint0, Fz.line1, Fz.lint1, Fz.line2, Fz.lint2, Fz.line3, Fz.lint3, Fz.line4, Fz.lint4, Fz.line5, Fz.lint5, Fz.line6, Fz.lint6, Fz.line7, Fz.lint7, Fz.line8, Fz.lint8, Fz.line9, Fz.lint9, Fz.line10, Fz.lint10, Fz.line11, Fz.lint11, Fz.line12, Fz.lint12, Fz.line13, Fz.lint13, Fz.line14, Fz.lint14, Fz.line15, Fz.lint15, Fz.line16, Fz.lint16, Fz.line17, Fz.lint17, Fz.line18, Fz.lint18, Fz.line19, Fz.lint19, Fz.line20, Fz.lint20, Fz.line21, Fz.lint21, Fz.line22, Fz.lint22, Fz.line23, Fz.lint23, Fz.line24, Fz.lint24, Fz.set_atk, Fz.set_at0, Fz.optC_lst, Fz.py_fr, Fz.py_refC, Fz.ty_list, Fz.ty_str, Fz.nr_fr, Fz.gc_kS, Fz.gc_kI, Fz.gc_kB, Fz.cellNo, Fz.noRef.noRefs, Fz.noRef, List.all_cons, List.all_nil, List.take_succ_cons, List.take_zero, Nat.le_refl, Nat.reduceLeDiff, Fz.mapO, Option.map_some, Fz.eqQ_some, List.cons_beq_cons, Nat.reduceBEq, Nat.reduceBNe, Bool.and_true, Bool.true_and, Bool.false_and, Bool.and_false, beq_self_eq_true, Bool.or_true, Bool.true_or, Bool.or_false, Bool.false_or, Fz.bls_map, List.length_append]
  refine wh_sat (fun e T => T = S ∧ ∃ x y : Int, e = [some (.int t), some (.int l), some (.int x), some (.int y)] ∧ 0 ≤ x ∧ 0 ≤ y ∧ Nat.gcd x.natAbs y.natAbs = Nat.gcd t.natAbs l.natAbs ∧ y.natAbs < 2 ^ 1000) (fun e _ => match e with | [_, _, _, some (.int y)] => y.natAbs | _ => 0) ⟨rfl, _, _, rfl, by split <;> omega, by omega, ?_, hB⟩ (lt_WF (Nat.lt_of_lt_of_le hB (Nat.pow_le_pow_right (by decide) (by decide)))) ?_
  · congr 1; split <;> omega
  · rintro e T ⟨rfl, x, y, rfl, hx, hy, hg, hb⟩
    simp -implicitDefEqProofs only [Fz.r_ok, Fz.r_stuck, Fz.r_ite, Fz.r_bind, Fz.r_fl, Fz.r_fl0, Fz.f_ite, Fz.x_nil, Fz.x_seq, Fz.x_expr, Fz.x_ret, Fz.x_retN, Fz.x_brk, Fz.x_cnt, Fz.x_stuck, Fz.x_if, Fz.x_asg, Fz.x_par2, Fz.x_par3, Fz.g_nm, Fz.g_nil, Fz.g_cons, Fz.g_tp, Fz.g_sb, Fz.g_set, Fz.e_var0, Fz.e_varS, Fz.e_c, Fz.e_1, Fz.e_2, Fz.e_n, Fz.e_gc, Fz.e_if, Fz.e_and, Fz.e_or, Fz.e_not, Fz.e_ch, Fz.e_sl, Fz.o_none, Fz.o_some, Fz.a_nil, Fz.a_cons, Fz.a_app, Fz.a_star, Fz.t_of, Fz.t_bl, Fz.t_not, Fz.t_and, Fz.t_or, Fz.t_yes, Fz.b_bl, Fz.u_bl, Fz.u_int, Fz.u_non, Fz.u_tup, Fz.u_frl, Fz.u_str, Fz.v_addI, Fz.v_addS, Fz.v_addT, Fz.v_subI, Fz.v_mulII, Fz.v_divI, Fz.v_modI, Fz.v_powI, Fz.v_shlI, Fz.v_shrI, Fz.v_negI, Fz.v_cmpI, Fz.v_tup, Fz.v_lst, Fz.v_absI, Fz.v_maxI, Fz.v_minI, Fz.v_intI, Fz.v_intB, Fz.v_gcdI, Fz.v_dmI, Fz.v_lenS, Fz.v_lenT, Fz.v_lenF, Fz.v_lenR, Fz.v_ixT, Fz.v_ixF, Fz.v_ixR, Fz.v_ixS, Fz.v_slT, Fz.v_slF, Fz.v_slR, Fz.v_slS, Fz.v_revS, Fz.v_eqS, Fz.v_neS, Fz.v_eqI, Fz.v_neI, Fz.v_eqT, Fz.v_neT, Fz.v_eqR, Fz.v_neR, Fz.v_inC, Fz.v_ninC, Fz.x_for, Fz.i_of, Fz.i_arg, Fz.s_tup, Fz.s_frl, Fz.s_str, Fz.s_ref, Fz.s_r1, Fz.s_r2, Fz.e_lc, Fz.r_nox, Fz.v_allR, Fz.v_anyR, Fz.v_sumR, Fz.i_int, Fz.s_starT, Fz.v_isiS, Fz.v_isiSI, Fz.v_isiI, Fz.v_isiIB, Fz.v_isiIS, Fz.v_isiIT, Fz.v_isiIL, Fz.v_isiT, Fz.v_isiTI, Fz.v_isiTL, Fz.v_eqF, Fz.v_neF, Fz.v_ixf0, Fz.v_ixf1, Fz.v_isif, Fz.v_lenf, Fz.v_reprP, Fz.e_m, Fz.v_appR, Fz.v_isB, Fz.v_isNN, Fz.v_isNI, Fz.v_isNT, Fz.v_isNF, Fz.v_isNR, Fz.v_notNN, Fz.v_notNI, Fz.v_notNT, Fz.v_notNF, Fz.v_notNR, Fz.v_tupleR, Fz.v_tupleT, Fz.v_tupleF, Fz.v_listR, Fz.v_listT, Fz.v_sumAT, Fz.v_sumAR, Fz.v_mulAI, Fz.v_mulAR, Fz.v_andI, Fz.s_r3, Fz.v_revR, Fz.g_tpf, Fz.v_eqB, Fz.v_neB, Fz.v_eqTI, Fz.g_tlR, Fz.v_joinR, Fz.v_mulAC, Fz.v_lr, Fz.c_F, Fz.d_F, Fz.if_false', Fz.if_true', Fz.cellQ_lst, Fz.optQ_some, Fz.atI_0, Fz.atI_1, Fz.atI_n, Fz.ixN_0, Fz.ixN_1, Fz.ixN_n, List.set_cons_succ, List.set_cons_zero, List.getElem?_cons_succ, List.getElem?_cons_zero, List.length_cons, List.length_nil, List.map_cons, List.map_nil, List.replicate_succ, List.replicate_zero, List.cons_append, List.nil_append, List.append_assoc, List.append_nil, Fz.permL, List.filterMap_cons, List.filterMap_nil, Fz.wipeD, List.length_set, List.set_set, Nat.reduceAdd, Nat.reduceLT, Nat.reduceLeDiff, Nat.reduceSub, Nat.reduceEqDiff, Int.reduceAdd, Int.reduceToNat, Int.reducePow, decide_eq_true_eq, if_true, if_false, ite_true, ite_false, true_and, and_true, not_false_eq_true, not_true_eq_false, false_and, and_false, Bool.false_eq_true, Bool.true_eq_false, Bool.not_true, Bool.not_false, Fz.set_at, Fz.gc_selfS, Fz.app_at, Fz.app_at0, Fz.app_lt, Fz.gc_appI, Fz.gc_appB, Fz.gc_appS, Fz.gc_appN, Fz.cutD_map, Fz.ints_int, List.flatten_cons, List.flatten_nil, Nat.add_assoc, Fz.mapO_fr, Fz.mapO_int, Fz.nr_frs, Fz.nr_ints, Fz.py_int, Fz.py_str, Fz.py_bl, Fz.py_non, Fz.py_tup, Fz.line0, Fz.lint0, Fz.line1, Fz.lint1, Fz.line2, Fz.lint2, Fz.line3, Fz.lint3, Fz.line4, Fz.lint4, Fz.line5, Fz.lint5, Fz.line6, Fz.lint6, Fz.line7, Fz.lint7, Fz.line8, Fz.lint8, Fz.line9, Fz.lint9, Fz.line10, Fz.lint10, Fz.line11, Fz.lint11, Fz.line12, Fz.lint12, Fz.line13, Fz.lint13, Fz.line14, Fz.lint14, Fz.line15, Fz.lint15, Fz.line16, Fz.lint16, Fz.line17, Fz.lint17, Fz.line18, Fz.lint18, Fz.line19, Fz.lint19, Fz.line20, Fz.lint20, Fz.line21, Fz.lint21, Fz.line22, Fz.lint22, Fz.line23, Fz.lint23, Fz.line24, Fz.lint24, Fz.set_atk, Fz.set_at0, Fz.optC_lst, Fz.py_fr, Fz.py_refC, Fz.ty_list, Fz.ty_str, Fz.nr_fr, Fz.gc_kS, Fz.gc_kI, Fz.gc_kB, Fz.cellNo, Fz.noRef.noRefs, Fz.noRef, List.all_cons, List.all_nil, List.take_succ_cons, List.take_zero, Nat.le_refl, Nat.reduceLeDiff, Fz.mapO, Option.map_some, Fz.eqQ_some, List.cons_beq_cons, Nat.reduceBEq, Nat.reduceBNe, Bool.and_true, Bool.true_and, Bool.false_and, Bool.and_false, beq_self_eq_true, Bool.or_true, Bool.true_or, Bool.or_false, Bool.false_or, Fz.bls_map, List.length_append]
    by_cases h : 0 < y
    · rw [if_pos h]
      have m1 := Int.emod_nonneg x (show y ≠ 0 by omega)
      have m2 := Int.emod_lt_of_pos x h
      refine ⟨h, ⟨_, _, rfl, hy, m1, ?_, by omega⟩, by omega⟩
      rw [← hg, Int.natAbs_emod_of_nonneg hx, Nat.gcd_comm, Nat.gcd_comm x.natAbs, Nat.gcd_rec y.natAbs x.natAbs]
    · rw [if_neg h]
      have y0 : y = 0 := by omega
      subst y0
      rw [show (0 : Int).natAbs = 0 from rfl, Nat.gcd_zero_right] at hg
      have ex : x = gI t l := by unfold gI; rw [← hg]; omega
      have g := gI_pos (a := t) hl
      have gb : divOk (gI t l) := (gI_bd hl hB).div g
      subst ex
      exact ⟨gb, gb, rfl⟩)
theorem is_above_eq {q : Int × Int} {S : Sto} (h : Gv q) : F_is_above [fr q] S = .ok (.bl (decide (0 < q.1))) S := sat_eq (by
  unfold F_is_above b_is_above
  simp -implicitDefEqProofs only [Fz.r_ok, Fz.r_stuck, Fz.r_ite, Fz.r_bind, Fz.r_fl, Fz.r_fl0, Fz.f_ite, Fz.x_nil, Fz.x_seq, Fz.x_expr, Fz.x_ret, Fz.x_retN, Fz.x_brk, Fz.x_cnt, Fz.x_stuck, Fz.x_if, Fz.x_asg, Fz.x_par2, Fz.x_par3, Fz.g_nm, Fz.g_nil, Fz.g_cons, Fz.g_tp, Fz.g_sb, Fz.g_set, Fz.e_var0, Fz.e_varS, Fz.e_c, Fz.e_1, Fz.e_2, Fz.e_n, Fz.e_gc, Fz.e_if, Fz.e_and, Fz.e_or, Fz.e_not, Fz.e_ch, Fz.e_sl, Fz.o_none, Fz.o_some, Fz.a_nil, Fz.a_cons, Fz.a_app, Fz.a_star, Fz.t_of, Fz.t_bl, Fz.t_not, Fz.t_and, Fz.t_or, Fz.t_yes, Fz.b_bl, Fz.u_bl, Fz.u_int, Fz.u_non, Fz.u_tup, Fz.u_frl, Fz.u_str, Fz.v_addI, Fz.v_addS, Fz.v_addT, Fz.v_subI, Fz.v_mulII, Fz.v_divI, Fz.v_modI, Fz.v_powI, Fz.v_shlI, Fz.v_shrI, Fz.v_negI, Fz.v_cmpI, Fz.v_tup, Fz.v_lst, Fz.v_absI, Fz.v_maxI, Fz.v_minI, Fz.v_intI, Fz.v_intB, Fz.v_gcdI, Fz.v_dmI, Fz.v_lenS, Fz.v_lenT, Fz.v_lenF, Fz.v_lenR, Fz.v_ixT, Fz.v_ixF, Fz.v_ixR, Fz.v_ixS, Fz.v_slT, Fz.v_slF, Fz.v_slR, Fz.v_slS, Fz.v_revS, Fz.v_eqS, Fz.v_neS, Fz.v_eqI, Fz.v_neI, Fz.v_eqT, Fz.v_neT, Fz.v_eqR, Fz.v_neR, Fz.v_inC, Fz.v_ninC, Fz.x_for, Fz.i_of, Fz.i_arg, Fz.s_tup, Fz.s_frl, Fz.s_str, Fz.s_ref, Fz.s_r1, Fz.s_r2, Fz.e_lc, Fz.r_nox, Fz.v_allR, Fz.v_anyR, Fz.v_sumR, Fz.i_int, Fz.s_starT, Fz.v_isiS, Fz.v_isiSI, Fz.v_isiI, Fz.v_isiIB, Fz.v_isiIS, Fz.v_isiIT, Fz.v_isiIL, Fz.v_isiT, Fz.v_isiTI, Fz.v_isiTL, Fz.v_eqF, Fz.v_neF, Fz.v_ixf0, Fz.v_ixf1, Fz.v_isif, Fz.v_lenf, Fz.v_reprP, Fz.e_m, Fz.v_appR, Fz.v_isB, Fz.v_isNN, Fz.v_isNI, Fz.v_isNT, Fz.v_isNF, Fz.v_isNR, Fz.v_notNN, Fz.v_notNI, Fz.v_notNT, Fz.v_notNF, Fz.v_notNR, Fz.v_tupleR, Fz.v_tupleT, Fz.v_tupleF, Fz.v_listR, Fz.v_listT, Fz.v_sumAT, Fz.v_sumAR, Fz.v_mulAI, Fz.v_mulAR, Fz.v_andI, Fz.s_r3, Fz.v_revR, Fz.g_tpf, Fz.v_eqB, Fz.v_neB, Fz.v_eqTI, Fz.g_tlR, Fz.v_joinR, Fz.v_mulAC, Fz.v_lr, Fz.c_F, Fz.d_F, Fz.if_false', Fz.if_true', Fz.cellQ_lst, Fz.optQ_some, Fz.atI_0, Fz.atI_1, Fz.atI_n, Fz.ixN_0, Fz.ixN_1, Fz.ixN_n, List.set_cons_succ, List.set_cons_zero, List.getElem?_cons_succ, List.getElem?_cons_zero, List.length_cons, List.length_nil, List.map_cons, List.map_nil, List.replicate_succ, List.replicate_zero, List.cons_append, List.nil_append, List.append_assoc, List.append_nil, Fz.permL, List.filterMap_cons, List.filterMap_nil, Fz.wipeD, List.length_set, List.set_set, Nat.reduceAdd, Nat.reduceLT, Nat.reduceLeDiff, Nat.reduceSub, Nat.reduceEqDiff, Int.reduceAdd, Int.reduceToNat, Int.reducePow, decide_eq_true_eq, if_true, if_false, ite_true, ite_false, true_and, and_true, not_false_eq_true, not_true_eq_false, false_and, and_false, Bool.false_eq_true, Bool.true_eq_false, Bool.not_true, Bool.not_false, Fz.set_at, Fz.gc_selfS, Fz.app_at, Fz.app_at0, Fz.app_lt, Fz.gc_appI, Fz.gc_appB, Fz.gc_appS, Fz.gc_appN, Fz.cutD_map, Fz.ints_int, List.flatten_cons, List.flatten_nil, Nat.add_assoc, Fz.mapO_fr, Fz.mapO_int, Fz.nr_frs, Fz.nr_ints, Fz.py_int, Fz.py_str, Fz.py_bl, Fz.py_non, Fz.py_tup, Fz.line0, Fz.lint0, Fz.line1, Fz.lint1, Fz.line2, Fz.lint2, Fz.line3, Fz.lint3, Fz.line4, Fz.lint4, Fz.line5, Fz.lint5, Fz.line6, Fz.lint6, Fz.line7, Fz.lint7, Fz.line8, Fz.lint8, Fz.line9, Fz.lint9, Fz.line10, Fz.lint10, Fz.line11, Fz.lint11, Fz.line12, Fz.lint12, Fz.line13, Fz.lint13, Fz.line14, Fz.lint14, Fz.line15, Fz.lint15, Fz.line16, Fz.lint16, Fz.line17, Fz.lint17, Fz.line18, Fz.lint18, Fz.line19, Fz.lint19, Fz.line20, Fz.lint20, Fz.line21, Fz.lint21, Fz.line22, Fz.lint22, Fz.line23, Fz.lint23, Fz.line24, Fz.lint24, Fz.set_atk, Fz.set_at0, Fz.optC_lst, Fz.py_fr, Fz.py_refC, Fz.ty_list, Fz.ty_str, Fz.nr_fr, Fz.gc_kS, Fz.gc_kI, Fz.gc_kB, Fz.cellNo, Fz.noRef.noRefs, Fz.noRef, List.all_cons, List.all_nil, List.take_succ_cons, List.take_zero, Nat.le_refl, Nat.reduceLeDiff, Fz.mapO, Option.map_some, Fz.eqQ_some, List.cons_beq_cons, Nat.reduceBEq, Nat.reduceBNe, Bool.and_true, Bool.true_and, Bool.false_and, Bool.and_false, beq_self_eq_true, Bool.or_true, Bool.true_or, Bool.or_false, Bool.false_or, Fz.bls_map, List.length_append, is_given_eq h])
theorem is_part_eq {q : Int × Int} {S : Sto} (h : Gv q) (h0 : 0 < q.1) (h1 : q.1 ≤ q.2) : F_is_part [fr q] S = .ok (.bl true) S := sat_eq (by
  unfold F_is_part b_is_part
  simp -implicitDefEqProofs only [Fz.r_ok, Fz.r_stuck, Fz.r_ite, Fz.r_bind, Fz.r_fl, Fz.r_fl0, Fz.f_ite, Fz.x_nil, Fz.x_seq, Fz.x_expr, Fz.x_ret, Fz.x_retN, Fz.x_brk, Fz.x_cnt, Fz.x_stuck, Fz.x_if, Fz.x_asg, Fz.x_par2, Fz.x_par3, Fz.g_nm, Fz.g_nil, Fz.g_cons, Fz.g_tp, Fz.g_sb, Fz.g_set, Fz.e_var0, Fz.e_varS, Fz.e_c, Fz.e_1, Fz.e_2, Fz.e_n, Fz.e_gc, Fz.e_if, Fz.e_and, Fz.e_or, Fz.e_not, Fz.e_ch, Fz.e_sl, Fz.o_none, Fz.o_some, Fz.a_nil, Fz.a_cons, Fz.a_app, Fz.a_star, Fz.t_of, Fz.t_bl, Fz.t_not, Fz.t_and, Fz.t_or, Fz.t_yes, Fz.b_bl, Fz.u_bl, Fz.u_int, Fz.u_non, Fz.u_tup, Fz.u_frl, Fz.u_str, Fz.v_addI, Fz.v_addS, Fz.v_addT, Fz.v_subI, Fz.v_mulII, Fz.v_divI, Fz.v_modI, Fz.v_powI, Fz.v_shlI, Fz.v_shrI, Fz.v_negI, Fz.v_cmpI, Fz.v_tup, Fz.v_lst, Fz.v_absI, Fz.v_maxI, Fz.v_minI, Fz.v_intI, Fz.v_intB, Fz.v_gcdI, Fz.v_dmI, Fz.v_lenS, Fz.v_lenT, Fz.v_lenF, Fz.v_lenR, Fz.v_ixT, Fz.v_ixF, Fz.v_ixR, Fz.v_ixS, Fz.v_slT, Fz.v_slF, Fz.v_slR, Fz.v_slS, Fz.v_revS, Fz.v_eqS, Fz.v_neS, Fz.v_eqI, Fz.v_neI, Fz.v_eqT, Fz.v_neT, Fz.v_eqR, Fz.v_neR, Fz.v_inC, Fz.v_ninC, Fz.x_for, Fz.i_of, Fz.i_arg, Fz.s_tup, Fz.s_frl, Fz.s_str, Fz.s_ref, Fz.s_r1, Fz.s_r2, Fz.e_lc, Fz.r_nox, Fz.v_allR, Fz.v_anyR, Fz.v_sumR, Fz.i_int, Fz.s_starT, Fz.v_isiS, Fz.v_isiSI, Fz.v_isiI, Fz.v_isiIB, Fz.v_isiIS, Fz.v_isiIT, Fz.v_isiIL, Fz.v_isiT, Fz.v_isiTI, Fz.v_isiTL, Fz.v_eqF, Fz.v_neF, Fz.v_ixf0, Fz.v_ixf1, Fz.v_isif, Fz.v_lenf, Fz.v_reprP, Fz.e_m, Fz.v_appR, Fz.v_isB, Fz.v_isNN, Fz.v_isNI, Fz.v_isNT, Fz.v_isNF, Fz.v_isNR, Fz.v_notNN, Fz.v_notNI, Fz.v_notNT, Fz.v_notNF, Fz.v_notNR, Fz.v_tupleR, Fz.v_tupleT, Fz.v_tupleF, Fz.v_listR, Fz.v_listT, Fz.v_sumAT, Fz.v_sumAR, Fz.v_mulAI, Fz.v_mulAR, Fz.v_andI, Fz.s_r3, Fz.v_revR, Fz.g_tpf, Fz.v_eqB, Fz.v_neB, Fz.v_eqTI, Fz.g_tlR, Fz.v_joinR, Fz.v_mulAC, Fz.v_lr, Fz.c_F, Fz.d_F, Fz.if_false', Fz.if_true', Fz.cellQ_lst, Fz.optQ_some, Fz.atI_0, Fz.atI_1, Fz.atI_n, Fz.ixN_0, Fz.ixN_1, Fz.ixN_n, List.set_cons_succ, List.set_cons_zero, List.getElem?_cons_succ, List.getElem?_cons_zero, List.length_cons, List.length_nil, List.map_cons, List.map_nil, List.replicate_succ, List.replicate_zero, List.cons_append, List.nil_append, List.append_assoc, List.append_nil, Fz.permL, List.filterMap_cons, List.filterMap_nil, Fz.wipeD, List.length_set, List.set_set, Nat.reduceAdd, Nat.reduceLT, Nat.reduceLeDiff, Nat.reduceSub, Nat.reduceEqDiff, Int.reduceAdd, Int.reduceToNat, Int.reducePow, decide_eq_true_eq, if_true, if_false, ite_true, ite_false, true_and, and_true, not_false_eq_true, not_true_eq_false, false_and, and_false, Bool.false_eq_true, Bool.true_eq_false, Bool.not_true, Bool.not_false, Fz.set_at, Fz.gc_selfS, Fz.app_at, Fz.app_at0, Fz.app_lt, Fz.gc_appI, Fz.gc_appB, Fz.gc_appS, Fz.gc_appN, Fz.cutD_map, Fz.ints_int, List.flatten_cons, List.flatten_nil, Nat.add_assoc, Fz.mapO_fr, Fz.mapO_int, Fz.nr_frs, Fz.nr_ints, Fz.py_int, Fz.py_str, Fz.py_bl, Fz.py_non, Fz.py_tup, Fz.line0, Fz.lint0, Fz.line1, Fz.lint1, Fz.line2, Fz.lint2, Fz.line3, Fz.lint3, Fz.line4, Fz.lint4, Fz.line5, Fz.lint5, Fz.line6, Fz.lint6, Fz.line7, Fz.lint7, Fz.line8, Fz.lint8, Fz.line9, Fz.lint9, Fz.line10, Fz.lint10, Fz.line11, Fz.lint11, Fz.line12, Fz.lint12, Fz.line13, Fz.lint13, Fz.line14, Fz.lint14, Fz.line15, Fz.lint15, Fz.line16, Fz.lint16, Fz.line17, Fz.lint17, Fz.line18, Fz.lint18, Fz.line19, Fz.lint19, Fz.line20, Fz.lint20, Fz.line21, Fz.lint21, Fz.line22, Fz.lint22, Fz.line23, Fz.lint23, Fz.line24, Fz.lint24, Fz.set_atk, Fz.set_at0, Fz.optC_lst, Fz.py_fr, Fz.py_refC, Fz.ty_list, Fz.ty_str, Fz.nr_fr, Fz.gc_kS, Fz.gc_kI, Fz.gc_kB, Fz.cellNo, Fz.noRef.noRefs, Fz.noRef, List.all_cons, List.all_nil, List.take_succ_cons, List.take_zero, Nat.le_refl, Nat.reduceLeDiff, Fz.mapO, Option.map_some, Fz.eqQ_some, List.cons_beq_cons, Nat.reduceBEq, Nat.reduceBNe, Bool.and_true, Bool.true_and, Bool.false_and, Bool.and_false, beq_self_eq_true, Bool.or_true, Bool.true_or, Bool.or_false, Bool.false_or, Fz.bls_map, List.length_append, is_above_eq h, h0, h1, decide_true])
theorem check_part_eq {q : Int × Int} {S : Sto} (h : Gv q) (h0 : 0 < q.1) (h1 : q.1 ≤ q.2) : F_check_part [fr q] S = .ok .non S := sat_eq (by
  unfold F_check_part b_check_part
  simp -implicitDefEqProofs only [Fz.r_ok, Fz.r_stuck, Fz.r_ite, Fz.r_bind, Fz.r_fl, Fz.r_fl0, Fz.f_ite, Fz.x_nil, Fz.x_seq, Fz.x_expr, Fz.x_ret, Fz.x_retN, Fz.x_brk, Fz.x_cnt, Fz.x_stuck, Fz.x_if, Fz.x_asg, Fz.x_par2, Fz.x_par3, Fz.g_nm, Fz.g_nil, Fz.g_cons, Fz.g_tp, Fz.g_sb, Fz.g_set, Fz.e_var0, Fz.e_varS, Fz.e_c, Fz.e_1, Fz.e_2, Fz.e_n, Fz.e_gc, Fz.e_if, Fz.e_and, Fz.e_or, Fz.e_not, Fz.e_ch, Fz.e_sl, Fz.o_none, Fz.o_some, Fz.a_nil, Fz.a_cons, Fz.a_app, Fz.a_star, Fz.t_of, Fz.t_bl, Fz.t_not, Fz.t_and, Fz.t_or, Fz.t_yes, Fz.b_bl, Fz.u_bl, Fz.u_int, Fz.u_non, Fz.u_tup, Fz.u_frl, Fz.u_str, Fz.v_addI, Fz.v_addS, Fz.v_addT, Fz.v_subI, Fz.v_mulII, Fz.v_divI, Fz.v_modI, Fz.v_powI, Fz.v_shlI, Fz.v_shrI, Fz.v_negI, Fz.v_cmpI, Fz.v_tup, Fz.v_lst, Fz.v_absI, Fz.v_maxI, Fz.v_minI, Fz.v_intI, Fz.v_intB, Fz.v_gcdI, Fz.v_dmI, Fz.v_lenS, Fz.v_lenT, Fz.v_lenF, Fz.v_lenR, Fz.v_ixT, Fz.v_ixF, Fz.v_ixR, Fz.v_ixS, Fz.v_slT, Fz.v_slF, Fz.v_slR, Fz.v_slS, Fz.v_revS, Fz.v_eqS, Fz.v_neS, Fz.v_eqI, Fz.v_neI, Fz.v_eqT, Fz.v_neT, Fz.v_eqR, Fz.v_neR, Fz.v_inC, Fz.v_ninC, Fz.x_for, Fz.i_of, Fz.i_arg, Fz.s_tup, Fz.s_frl, Fz.s_str, Fz.s_ref, Fz.s_r1, Fz.s_r2, Fz.e_lc, Fz.r_nox, Fz.v_allR, Fz.v_anyR, Fz.v_sumR, Fz.i_int, Fz.s_starT, Fz.v_isiS, Fz.v_isiSI, Fz.v_isiI, Fz.v_isiIB, Fz.v_isiIS, Fz.v_isiIT, Fz.v_isiIL, Fz.v_isiT, Fz.v_isiTI, Fz.v_isiTL, Fz.v_eqF, Fz.v_neF, Fz.v_ixf0, Fz.v_ixf1, Fz.v_isif, Fz.v_lenf, Fz.v_reprP, Fz.e_m, Fz.v_appR, Fz.v_isB, Fz.v_isNN, Fz.v_isNI, Fz.v_isNT, Fz.v_isNF, Fz.v_isNR, Fz.v_notNN, Fz.v_notNI, Fz.v_notNT, Fz.v_notNF, Fz.v_notNR, Fz.v_tupleR, Fz.v_tupleT, Fz.v_tupleF, Fz.v_listR, Fz.v_listT, Fz.v_sumAT, Fz.v_sumAR, Fz.v_mulAI, Fz.v_mulAR, Fz.v_andI, Fz.s_r3, Fz.v_revR, Fz.g_tpf, Fz.v_eqB, Fz.v_neB, Fz.v_eqTI, Fz.g_tlR, Fz.v_joinR, Fz.v_mulAC, Fz.v_lr, Fz.c_F, Fz.d_F, Fz.if_false', Fz.if_true', Fz.cellQ_lst, Fz.optQ_some, Fz.atI_0, Fz.atI_1, Fz.atI_n, Fz.ixN_0, Fz.ixN_1, Fz.ixN_n, List.set_cons_succ, List.set_cons_zero, List.getElem?_cons_succ, List.getElem?_cons_zero, List.length_cons, List.length_nil, List.map_cons, List.map_nil, List.replicate_succ, List.replicate_zero, List.cons_append, List.nil_append, List.append_assoc, List.append_nil, Fz.permL, List.filterMap_cons, List.filterMap_nil, Fz.wipeD, List.length_set, List.set_set, Nat.reduceAdd, Nat.reduceLT, Nat.reduceLeDiff, Nat.reduceSub, Nat.reduceEqDiff, Int.reduceAdd, Int.reduceToNat, Int.reducePow, decide_eq_true_eq, if_true, if_false, ite_true, ite_false, true_and, and_true, not_false_eq_true, not_true_eq_false, false_and, and_false, Bool.false_eq_true, Bool.true_eq_false, Bool.not_true, Bool.not_false, Fz.set_at, Fz.gc_selfS, Fz.app_at, Fz.app_at0, Fz.app_lt, Fz.gc_appI, Fz.gc_appB, Fz.gc_appS, Fz.gc_appN, Fz.cutD_map, Fz.ints_int, List.flatten_cons, List.flatten_nil, Nat.add_assoc, Fz.mapO_fr, Fz.mapO_int, Fz.nr_frs, Fz.nr_ints, Fz.py_int, Fz.py_str, Fz.py_bl, Fz.py_non, Fz.py_tup, Fz.line0, Fz.lint0, Fz.line1, Fz.lint1, Fz.line2, Fz.lint2, Fz.line3, Fz.lint3, Fz.line4, Fz.lint4, Fz.line5, Fz.lint5, Fz.line6, Fz.lint6, Fz.line7, Fz.lint7, Fz.line8, Fz.lint8, Fz.line9, Fz.lint9, Fz.line10, Fz.lint10, Fz.line11, Fz.lint11, Fz.line12, Fz.lint12, Fz.line13, Fz.lint13, Fz.line14, Fz.lint14, Fz.line15, Fz.lint15, Fz.line16, Fz.lint16, Fz.line17, Fz.lint17, Fz.line18, Fz.lint18, Fz.line19, Fz.lint19, Fz.line20, Fz.lint20, Fz.line21, Fz.lint21, Fz.line22, Fz.lint22, Fz.line23, Fz.lint23, Fz.line24, Fz.lint24, Fz.set_atk, Fz.set_at0, Fz.optC_lst, Fz.py_fr, Fz.py_refC, Fz.ty_list, Fz.ty_str, Fz.nr_fr, Fz.gc_kS, Fz.gc_kI, Fz.gc_kB, Fz.cellNo, Fz.noRef.noRefs, Fz.noRef, List.all_cons, List.all_nil, List.take_succ_cons, List.take_zero, Nat.le_refl, Nat.reduceLeDiff, Fz.mapO, Option.map_some, Fz.eqQ_some, List.cons_beq_cons, Nat.reduceBEq, Nat.reduceBNe, Bool.and_true, Bool.true_and, Bool.false_and, Bool.and_false, beq_self_eq_true, Bool.or_true, Bool.true_or, Bool.or_false, Bool.false_or, Fz.bls_map, List.length_append, is_part_eq h h0 h1])
theorem small_spec {S : Sto} {p : Nat} {m : Int} (hp : Pl S p) (h0 : 1 ≤ m) (h1 : m ≤ 999) :
    (F__law_small [.ref p, .int m] S).sat fun d S' => ∃ q, d = fr q ∧ Gv q ∧ 0 < q.1 ∧ q.1 ≤ q.2 ∧ Pn S p S' := by
  unfold F__law_small b__law_small
  simp -implicitDefEqProofs only [Fz.r_ok, Fz.r_stuck, Fz.r_ite, Fz.r_bind, Fz.r_fl, Fz.r_fl0, Fz.f_ite, Fz.x_nil, Fz.x_seq, Fz.x_expr, Fz.x_ret, Fz.x_retN, Fz.x_brk, Fz.x_cnt, Fz.x_stuck, Fz.x_if, Fz.x_asg, Fz.x_par2, Fz.x_par3, Fz.g_nm, Fz.g_nil, Fz.g_cons, Fz.g_tp, Fz.g_sb, Fz.g_set, Fz.e_var0, Fz.e_varS, Fz.e_c, Fz.e_1, Fz.e_2, Fz.e_n, Fz.e_gc, Fz.e_if, Fz.e_and, Fz.e_or, Fz.e_not, Fz.e_ch, Fz.e_sl, Fz.o_none, Fz.o_some, Fz.a_nil, Fz.a_cons, Fz.a_app, Fz.a_star, Fz.t_of, Fz.t_bl, Fz.t_not, Fz.t_and, Fz.t_or, Fz.t_yes, Fz.b_bl, Fz.u_bl, Fz.u_int, Fz.u_non, Fz.u_tup, Fz.u_frl, Fz.u_str, Fz.v_addI, Fz.v_addS, Fz.v_addT, Fz.v_subI, Fz.v_mulII, Fz.v_divI, Fz.v_modI, Fz.v_powI, Fz.v_shlI, Fz.v_shrI, Fz.v_negI, Fz.v_cmpI, Fz.v_tup, Fz.v_lst, Fz.v_absI, Fz.v_maxI, Fz.v_minI, Fz.v_intI, Fz.v_intB, Fz.v_gcdI, Fz.v_dmI, Fz.v_lenS, Fz.v_lenT, Fz.v_lenF, Fz.v_lenR, Fz.v_ixT, Fz.v_ixF, Fz.v_ixR, Fz.v_ixS, Fz.v_slT, Fz.v_slF, Fz.v_slR, Fz.v_slS, Fz.v_revS, Fz.v_eqS, Fz.v_neS, Fz.v_eqI, Fz.v_neI, Fz.v_eqT, Fz.v_neT, Fz.v_eqR, Fz.v_neR, Fz.v_inC, Fz.v_ninC, Fz.x_for, Fz.i_of, Fz.i_arg, Fz.s_tup, Fz.s_frl, Fz.s_str, Fz.s_ref, Fz.s_r1, Fz.s_r2, Fz.e_lc, Fz.r_nox, Fz.v_allR, Fz.v_anyR, Fz.v_sumR, Fz.i_int, Fz.s_starT, Fz.v_isiS, Fz.v_isiSI, Fz.v_isiI, Fz.v_isiIB, Fz.v_isiIS, Fz.v_isiIT, Fz.v_isiIL, Fz.v_isiT, Fz.v_isiTI, Fz.v_isiTL, Fz.v_eqF, Fz.v_neF, Fz.v_ixf0, Fz.v_ixf1, Fz.v_isif, Fz.v_lenf, Fz.v_reprP, Fz.e_m, Fz.v_appR, Fz.v_isB, Fz.v_isNN, Fz.v_isNI, Fz.v_isNT, Fz.v_isNF, Fz.v_isNR, Fz.v_notNN, Fz.v_notNI, Fz.v_notNT, Fz.v_notNF, Fz.v_notNR, Fz.v_tupleR, Fz.v_tupleT, Fz.v_tupleF, Fz.v_listR, Fz.v_listT, Fz.v_sumAT, Fz.v_sumAR, Fz.v_mulAI, Fz.v_mulAR, Fz.v_andI, Fz.s_r3, Fz.v_revR, Fz.g_tpf, Fz.v_eqB, Fz.v_neB, Fz.v_eqTI, Fz.g_tlR, Fz.v_joinR, Fz.v_mulAC, Fz.v_lr, Fz.c_F, Fz.d_F, Fz.if_false', Fz.if_true', Fz.cellQ_lst, Fz.optQ_some, Fz.atI_0, Fz.atI_1, Fz.atI_n, Fz.ixN_0, Fz.ixN_1, Fz.ixN_n, List.set_cons_succ, List.set_cons_zero, List.getElem?_cons_succ, List.getElem?_cons_zero, List.length_cons, List.length_nil, List.map_cons, List.map_nil, List.replicate_succ, List.replicate_zero, List.cons_append, List.nil_append, List.append_assoc, List.append_nil, Fz.permL, List.filterMap_cons, List.filterMap_nil, Fz.wipeD, List.length_set, List.set_set, Nat.reduceAdd, Nat.reduceLT, Nat.reduceLeDiff, Nat.reduceSub, Nat.reduceEqDiff, Int.reduceAdd, Int.reduceToNat, Int.reducePow, decide_eq_true_eq, if_true, if_false, ite_true, ite_false, true_and, and_true, not_false_eq_true, not_true_eq_false, false_and, and_false, Bool.false_eq_true, Bool.true_eq_false, Bool.not_true, Bool.not_false, Fz.set_at, Fz.gc_selfS, Fz.app_at, Fz.app_at0, Fz.app_lt, Fz.gc_appI, Fz.gc_appB, Fz.gc_appS, Fz.gc_appN, Fz.cutD_map, Fz.ints_int, List.flatten_cons, List.flatten_nil, Nat.add_assoc, Fz.mapO_fr, Fz.mapO_int, Fz.nr_frs, Fz.nr_ints, Fz.py_int, Fz.py_str, Fz.py_bl, Fz.py_non, Fz.py_tup, Fz.line0, Fz.lint0, Fz.line1, Fz.lint1, Fz.line2, Fz.lint2, Fz.line3, Fz.lint3, Fz.line4, Fz.lint4, Fz.line5, Fz.lint5, Fz.line6, Fz.lint6, Fz.line7, Fz.lint7, Fz.line8, Fz.lint8, Fz.line9, Fz.lint9, Fz.line10, Fz.lint10, Fz.line11, Fz.lint11, Fz.line12, Fz.lint12, Fz.line13, Fz.lint13, Fz.line14, Fz.lint14, Fz.line15, Fz.lint15, Fz.line16, Fz.lint16, Fz.line17, Fz.lint17, Fz.line18, Fz.lint18, Fz.line19, Fz.lint19, Fz.line20, Fz.lint20, Fz.line21, Fz.lint21, Fz.line22, Fz.lint22, Fz.line23, Fz.lint23, Fz.line24, Fz.lint24, Fz.set_atk, Fz.set_at0, Fz.optC_lst, Fz.py_fr, Fz.py_refC, Fz.ty_list, Fz.ty_str, Fz.nr_fr, Fz.gc_kS, Fz.gc_kI, Fz.gc_kB, Fz.cellNo, Fz.noRef.noRefs, Fz.noRef, List.all_cons, List.all_nil, List.take_succ_cons, List.take_zero, Nat.le_refl, Nat.reduceLeDiff, Fz.mapO, Option.map_some, Fz.eqQ_some, List.cons_beq_cons, Nat.reduceBEq, Nat.reduceBNe, Bool.and_true, Bool.true_and, Bool.false_and, Bool.and_false, beq_self_eq_true, Bool.or_true, Bool.true_or, Bool.or_false, Bool.false_or, Fz.bls_map, List.length_append]
  refine sat_mono (take_spec hp (by omega) (by omega)) ?_
  rintro _ T ⟨x, rfl, x0, x1, ht⟩
  simp -implicitDefEqProofs only [Fz.r_ok, Fz.r_stuck, Fz.r_ite, Fz.r_bind, Fz.r_fl, Fz.r_fl0, Fz.f_ite, Fz.x_nil, Fz.x_seq, Fz.x_expr, Fz.x_ret, Fz.x_retN, Fz.x_brk, Fz.x_cnt, Fz.x_stuck, Fz.x_if, Fz.x_asg, Fz.x_par2, Fz.x_par3, Fz.g_nm, Fz.g_nil, Fz.g_cons, Fz.g_tp, Fz.g_sb, Fz.g_set, Fz.e_var0, Fz.e_varS, Fz.e_c, Fz.e_1, Fz.e_2, Fz.e_n, Fz.e_gc, Fz.e_if, Fz.e_and, Fz.e_or, Fz.e_not, Fz.e_ch, Fz.e_sl, Fz.o_none, Fz.o_some, Fz.a_nil, Fz.a_cons, Fz.a_app, Fz.a_star, Fz.t_of, Fz.t_bl, Fz.t_not, Fz.t_and, Fz.t_or, Fz.t_yes, Fz.b_bl, Fz.u_bl, Fz.u_int, Fz.u_non, Fz.u_tup, Fz.u_frl, Fz.u_str, Fz.v_addI, Fz.v_addS, Fz.v_addT, Fz.v_subI, Fz.v_mulII, Fz.v_divI, Fz.v_modI, Fz.v_powI, Fz.v_shlI, Fz.v_shrI, Fz.v_negI, Fz.v_cmpI, Fz.v_tup, Fz.v_lst, Fz.v_absI, Fz.v_maxI, Fz.v_minI, Fz.v_intI, Fz.v_intB, Fz.v_gcdI, Fz.v_dmI, Fz.v_lenS, Fz.v_lenT, Fz.v_lenF, Fz.v_lenR, Fz.v_ixT, Fz.v_ixF, Fz.v_ixR, Fz.v_ixS, Fz.v_slT, Fz.v_slF, Fz.v_slR, Fz.v_slS, Fz.v_revS, Fz.v_eqS, Fz.v_neS, Fz.v_eqI, Fz.v_neI, Fz.v_eqT, Fz.v_neT, Fz.v_eqR, Fz.v_neR, Fz.v_inC, Fz.v_ninC, Fz.x_for, Fz.i_of, Fz.i_arg, Fz.s_tup, Fz.s_frl, Fz.s_str, Fz.s_ref, Fz.s_r1, Fz.s_r2, Fz.e_lc, Fz.r_nox, Fz.v_allR, Fz.v_anyR, Fz.v_sumR, Fz.i_int, Fz.s_starT, Fz.v_isiS, Fz.v_isiSI, Fz.v_isiI, Fz.v_isiIB, Fz.v_isiIS, Fz.v_isiIT, Fz.v_isiIL, Fz.v_isiT, Fz.v_isiTI, Fz.v_isiTL, Fz.v_eqF, Fz.v_neF, Fz.v_ixf0, Fz.v_ixf1, Fz.v_isif, Fz.v_lenf, Fz.v_reprP, Fz.e_m, Fz.v_appR, Fz.v_isB, Fz.v_isNN, Fz.v_isNI, Fz.v_isNT, Fz.v_isNF, Fz.v_isNR, Fz.v_notNN, Fz.v_notNI, Fz.v_notNT, Fz.v_notNF, Fz.v_notNR, Fz.v_tupleR, Fz.v_tupleT, Fz.v_tupleF, Fz.v_listR, Fz.v_listT, Fz.v_sumAT, Fz.v_sumAR, Fz.v_mulAI, Fz.v_mulAR, Fz.v_andI, Fz.s_r3, Fz.v_revR, Fz.g_tpf, Fz.v_eqB, Fz.v_neB, Fz.v_eqTI, Fz.g_tlR, Fz.v_joinR, Fz.v_mulAC, Fz.v_lr, Fz.c_F, Fz.d_F, Fz.if_false', Fz.if_true', Fz.cellQ_lst, Fz.optQ_some, Fz.atI_0, Fz.atI_1, Fz.atI_n, Fz.ixN_0, Fz.ixN_1, Fz.ixN_n, List.set_cons_succ, List.set_cons_zero, List.getElem?_cons_succ, List.getElem?_cons_zero, List.length_cons, List.length_nil, List.map_cons, List.map_nil, List.replicate_succ, List.replicate_zero, List.cons_append, List.nil_append, List.append_assoc, List.append_nil, Fz.permL, List.filterMap_cons, List.filterMap_nil, Fz.wipeD, List.length_set, List.set_set, Nat.reduceAdd, Nat.reduceLT, Nat.reduceLeDiff, Nat.reduceSub, Nat.reduceEqDiff, Int.reduceAdd, Int.reduceToNat, Int.reducePow, decide_eq_true_eq, if_true, if_false, ite_true, ite_false, true_and, and_true, not_false_eq_true, not_true_eq_false, false_and, and_false, Bool.false_eq_true, Bool.true_eq_false, Bool.not_true, Bool.not_false, Fz.set_at, Fz.gc_selfS, Fz.app_at, Fz.app_at0, Fz.app_lt, Fz.gc_appI, Fz.gc_appB, Fz.gc_appS, Fz.gc_appN, Fz.cutD_map, Fz.ints_int, List.flatten_cons, List.flatten_nil, Nat.add_assoc, Fz.mapO_fr, Fz.mapO_int, Fz.nr_frs, Fz.nr_ints, Fz.py_int, Fz.py_str, Fz.py_bl, Fz.py_non, Fz.py_tup, Fz.line0, Fz.lint0, Fz.line1, Fz.lint1, Fz.line2, Fz.lint2, Fz.line3, Fz.lint3, Fz.line4, Fz.lint4, Fz.line5, Fz.lint5, Fz.line6, Fz.lint6, Fz.line7, Fz.lint7, Fz.line8, Fz.lint8, Fz.line9, Fz.lint9, Fz.line10, Fz.lint10, Fz.line11, Fz.lint11, Fz.line12, Fz.lint12, Fz.line13, Fz.lint13, Fz.line14, Fz.lint14, Fz.line15, Fz.lint15, Fz.line16, Fz.lint16, Fz.line17, Fz.lint17, Fz.line18, Fz.lint18, Fz.line19, Fz.lint19, Fz.line20, Fz.lint20, Fz.line21, Fz.lint21, Fz.line22, Fz.lint22, Fz.line23, Fz.lint23, Fz.line24, Fz.lint24, Fz.set_atk, Fz.set_at0, Fz.optC_lst, Fz.py_fr, Fz.py_refC, Fz.ty_list, Fz.ty_str, Fz.nr_fr, Fz.gc_kS, Fz.gc_kI, Fz.gc_kB, Fz.cellNo, Fz.noRef.noRefs, Fz.noRef, List.all_cons, List.all_nil, List.take_succ_cons, List.take_zero, Nat.le_refl, Nat.reduceLeDiff, Fz.mapO, Option.map_some, Fz.eqQ_some, List.cons_beq_cons, Nat.reduceBEq, Nat.reduceBNe, Bool.and_true, Bool.true_and, Bool.false_and, Bool.and_false, beq_self_eq_true, Bool.or_true, Bool.true_or, Bool.or_false, Bool.false_or, Fz.bls_map, List.length_append]
  refine sat_mono (take_spec (ht.pl hp) (by omega) (by omega)) ?_
  rintro _ U ⟨y, rfl, y0, y1, hu⟩
  have hT := ht.trans hu
  rw [v_addI, law_frac_eq (by omega) (Nat.lt_of_lt_of_le (show (1 + x).natAbs < 2 ^ 10 by omega) (Nat.pow_le_pow_right (by decide) (by decide)))]
  rw [r_ok, gc_set hT.len]
  have hg := red_gv (a := 1 + y) (b := 1 + x) (by omega) (by omega) (by omega) (by omega)
  have hc := red_cross (a := 1 + y) (show 0 < 1 + x by omega)
  have hp2 := red_pos (a := 1 + y) (show 0 < 1 + x by omega)
  generalize red (1 + y) (1 + x) = r at *
  have h3 : 0 < (1 + y) * r.2 := Int.mul_pos (by omega) hp2
  refine ⟨_, rfl, hg, ?_, ?_, hT⟩
  · rcases Int.lt_or_le 0 r.1 with z | z
    · exact z
    · have := Int.mul_le_mul_of_nonneg_right z (show 0 ≤ 1 + x by omega)
      rw [Int.zero_mul] at this; omega
  · have : r.1 * (1 + x) ≤ r.2 * (1 + x) := by
      rw [hc, Int.mul_comm]; exact Int.mul_le_mul_of_nonneg_left (by omega) (by omega)
    exact Int.le_of_mul_le_mul_right this (by omega)
abbrev Tr := Int × Int × Int
def tr (x : Tr) : D := .tup [.int x.1, .int x.2.1, .int x.2.2]
/-- the third number, if there is one -/
def it (L U o w : Int) : Option Tr :=
  if 0 < L * w - U ∧ (U * w) % (L * w - U) = 0 ∧ w < U * w / (L * w - U) ∧ U * w / (L * w - U) ≤ 999 then some (o, w, U * w / (L * w - U)) else none
theorem it_scale {L U o w g : Int} (hg : 0 < g) : it (L * g) (U * g) o w = it L U o w := by
  have e1 : L * g * w - U * g = (L * w - U) * g := by grind
  have e2 : U * g * w = (U * w) * g := by grind
  have e3 : 0 < (L * w - U) * g ↔ 0 < L * w - U := by
    constructor
    · intro h
      rcases Int.lt_or_le 0 (L * w - U) with z | z
      · exact z
      · have := Int.mul_le_mul_of_nonneg_right z (Int.le_of_lt hg)
        rw [Int.zero_mul] at this; omega
    · exact fun h => Int.mul_pos h hg
  unfold it
  rw [e1, e2, Int.mul_ediv_mul_of_pos_left _ _ hg]
  have em : (U * w * g) % ((L * w - U) * g) = (U * w) % (L * w - U) * g := by
    rw [Int.mul_comm (U * w) g, Int.mul_comm (L * w - U) g, Int.mul_emod_mul_of_pos _ _ hg, Int.mul_comm]
  have e4 : ((U * w) % (L * w - U) * g = 0) ↔ (U * w) % (L * w - U) = 0 := by
    constructor
    · intro h; rcases Int.mul_eq_zero.mp h with z | z
      · exact z
      · omega
    · intro h; rw [h, Int.zero_mul]
  rw [em]
  simp only [e3, e4]
theorem it_high {L U o w : Int} (h : 999 ≤ w) : it L U o w = none := by
  unfold it
  rw [if_neg]; intro z; omega
def lo (L U o : Int) : Int := (if U / L > o then U / L else o) + 1
def hi (L U m : Int) : Int := (if 2 * U / L < m then 2 * U / L else m) + 1
def inn (L U o m : Int) : List Tr := (List.range (hi L U m - lo L U o).toNat).filterMap fun (k : Nat) => it L U o (lo L U o + k)
theorem inn_998 (L U o : Int) : inn L U o 999 = inn L U o 998 := by
  unfold inn hi
  by_cases h : 2 * U / L < 998
  · rw [if_pos (by omega), if_pos h]
  · by_cases h2 : 2 * U / L = 998
    · rw [if_pos (by omega), if_neg h, h2]
    · rw [if_neg (by omega), if_neg h]
      by_cases h3 : lo L U o ≤ 999
      · have e : ((999 : Int) + 1 - lo L U o).toNat = ((998 : Int) + 1 - lo L U o).toNat + 1 := by omega
        rw [e, List.range_succ, List.filterMap_append]
        have : it L U o (lo L U o + (((998 : Int) + 1 - lo L U o).toNat : Int)) = none := it_high (by omega)
        simp only [List.filterMap_cons, this, List.filterMap_nil, List.append_nil]
      · have e1 : ((999 : Int) + 1 - lo L U o).toNat = 0 := by omega
        have e2 : ((998 : Int) + 1 - lo L U o).toNat = 0 := by omega
        rw [e1, e2]
theorem inn_scale {L U o m g : Int} (hg : 0 < g) : inn (L * g) (U * g) o m = inn L U o m := by
  have e1 : lo (L * g) (U * g) o = lo L U o := by unfold lo; rw [Int.mul_ediv_mul_of_pos_left _ _ hg]
  have e2 : hi (L * g) (U * g) m = hi L U m := by
    unfold hi; rw [show 2 * (U * g) = (2 * U) * g by grind, Int.mul_ediv_mul_of_pos_left _ _ hg]
  unfold inn
  rw [e1, e2]
  congr 1; funext k; exact it_scale hg
def o1 (q : Int × Int) : Nat := ((if 3 * q.2 / q.1 < 999 then 3 * q.2 / q.1 else 999) + 1 - (q.2 / q.1 + 1)).toNat
def tF (q : Int × Int) (k : Nat) : List Tr := inn (q.1 * (q.2 / q.1 + 1 + k) - q.2) (q.2 * (q.2 / q.1 + 1 + k)) (q.2 / q.1 + 1 + k) 999
def tl (q : Int × Int) : List Tr := (List.range (o1 q)).flatMap (tF q)
def Pt (q : Int × Int) : Prop := Gv q ∧ 0 < q.1 ∧ q.1 ≤ q.2
theorem Pt.num {q : Int × Int} (h : Pt q) : 1 ≤ q.1 ∧ q.1 ≤ 999 ∧ 1 ≤ q.2 ∧ q.2 ≤ 999 ∧ 0 ≤ q.2 / q.1 ∧ q.2 / q.1 ≤ 999 ∧ 0 ≤ 3 * q.2 / q.1 ∧ 3 * q.2 / q.1 ≤ 2997 := by
  obtain ⟨⟨h1, h2, h3, h4, h5⟩, h6, h7⟩ := h
  have a1 := Int.ediv_nonneg (show 0 ≤ q.2 by omega) (show 0 ≤ q.1 by omega)
  have a2 := Int.ediv_le_self q.1 (show 0 ≤ q.2 by omega)
  have a3 := Int.ediv_nonneg (show 0 ≤ 3 * q.2 by omega) (show 0 ≤ q.1 by omega)
  have a4 := Int.ediv_le_self q.1 (show 0 ≤ 3 * q.2 by omega)
  exact ⟨by omega, by omega, by omega, by omega, a1, by omega, a3, by omega⟩
theorem Pt.left {q : Int × Int} (h : Pt q) (k : Nat) : 0 < q.1 * (q.2 / q.1 + 1 + k) - q.2 := by
  have := Int.lt_ediv_add_one_mul_self q.2 h.2.1
  have h1 := Int.mul_nonneg (show 0 ≤ q.1 by have := h.2.1; omega) (show (0 : Int) ≤ (k : Int) by omega)
  rw [Int.mul_add, Int.mul_comm q.1 (q.2 / q.1 + 1)]; omega
theorem o1_le {q : Int × Int} (h : Pt q) : o1 q ≤ 999 := by
  have n := h.num
  unfold o1; split <;> omega
theorem hi_le (L U m : Int) : hi L U m ≤ m + 1 := by unfold hi; split <;> omega
theorem inn_len {L U o : Int} (ho : 0 ≤ o) : (inn L U o 999).length ≤ 999 := by
  have h1 := List.length_filterMap_le (fun (k : Nat) => it L U o (lo L U o + k)) (List.range (hi L U 999 - lo L U o).toNat)
  have h2 := hi_le L U 999
  have h3 : 1 ≤ lo L U o := by unfold lo; split <;> omega
  rw [List.length_range] at h1
  unfold inn; omega
theorem flat_len {q : Int × Int} (h : Pt q) : ∀ i : Nat, ((List.range i).flatMap (tF q)).length ≤ i * 999
  | 0 => by simp
  | i + 1 => by
    have n := h.num
    have h1 := flat_len h i
    have h2 : (tF q i).length ≤ 999 := inn_len (by omega)
    rw [List.range_succ, List.flatMap_append, List.length_append, List.flatMap_singleton]
    omega
theorem tr_mk (a b c : Int) : D.tup [.int a, .int b, .int c] = tr (a, b, c) := rfl
theorem nr_trs (n : Nat) (xs : List Tr) : noRef.noRefs n (xs.map tr) = true := by
  induction xs with
  | nil => rfl
  | cons x xs ih => rw [List.map_cons, noRef.noRefs, ih]; rfl
/-- the inner turn, shared by program and law -/
theorem in_step {L U o : Int} (k : Nat) (n : Nat) : ((List.range (n + 1)).filterMap fun (k : Nat) => it L U o (lo L U o + k)) = ((List.range n).filterMap fun (k : Nat) => it L U o (lo L U o + k)) ++ (it L U o (lo L U o + n)).toList := by
  rw [List.range_succ, List.filterMap_append]; cases h : it L U o (lo L U o + n) <;> simp [h]
theorem triples_by_eq {q : Int × Int} {S : Sto} (h : Pt q) (hw : Wf S) : F_triples_by [fr q] S = .ok (.tup ((tl q).map tr)) S := sat_eq (by
  have hL : LINE = 16777216 := rfl
  have n := h.num
  have d1 : divOk q.1 := Bd.div (n := 10) (show _ < 1024 by omega) (by omega)
  have b1 : Bd 10 q.1 := show _ < 1024 by omega
  have b2 : Bd 10 q.2 := show _ < 1024 by omega
  unfold F_triples_by b_triples_by
  simp -implicitDefEqProofs only [Fz.r_ok, Fz.r_stuck, Fz.r_ite, Fz.r_bind, Fz.r_fl, Fz.r_fl0, Fz.f_ite, Fz.x_nil, Fz.x_seq, Fz.x_expr, Fz.x_ret, Fz.x_retN, Fz.x_brk, Fz.x_cnt, Fz.x_stuck, Fz.x_if, Fz.x_asg, Fz.x_par2, Fz.x_par3, Fz.g_nm, Fz.g_nil, Fz.g_cons, Fz.g_tp, Fz.g_sb, Fz.g_set, Fz.e_var0, Fz.e_varS, Fz.e_c, Fz.e_1, Fz.e_2, Fz.e_n, Fz.e_gc, Fz.e_if, Fz.e_and, Fz.e_or, Fz.e_not, Fz.e_ch, Fz.e_sl, Fz.o_none, Fz.o_some, Fz.a_nil, Fz.a_cons, Fz.a_app, Fz.a_star, Fz.t_of, Fz.t_bl, Fz.t_not, Fz.t_and, Fz.t_or, Fz.t_yes, Fz.b_bl, Fz.u_bl, Fz.u_int, Fz.u_non, Fz.u_tup, Fz.u_frl, Fz.u_str, Fz.v_addI, Fz.v_addS, Fz.v_addT, Fz.v_subI, Fz.v_mulII, Fz.v_divI, Fz.v_modI, Fz.v_powI, Fz.v_shlI, Fz.v_shrI, Fz.v_negI, Fz.v_cmpI, Fz.v_tup, Fz.v_lst, Fz.v_absI, Fz.v_maxI, Fz.v_minI, Fz.v_intI, Fz.v_intB, Fz.v_gcdI, Fz.v_dmI, Fz.v_lenS, Fz.v_lenT, Fz.v_lenF, Fz.v_lenR, Fz.v_ixT, Fz.v_ixF, Fz.v_ixR, Fz.v_ixS, Fz.v_slT, Fz.v_slF, Fz.v_slR, Fz.v_slS, Fz.v_revS, Fz.v_eqS, Fz.v_neS, Fz.v_eqI, Fz.v_neI, Fz.v_eqT, Fz.v_neT, Fz.v_eqR, Fz.v_neR, Fz.v_inC, Fz.v_ninC, Fz.x_for, Fz.i_of, Fz.i_arg, Fz.s_tup, Fz.s_frl, Fz.s_str, Fz.s_ref, Fz.s_r1, Fz.s_r2, Fz.e_lc, Fz.r_nox, Fz.v_allR, Fz.v_anyR, Fz.v_sumR, Fz.i_int, Fz.s_starT, Fz.v_isiS, Fz.v_isiSI, Fz.v_isiI, Fz.v_isiIB, Fz.v_isiIS, Fz.v_isiIT, Fz.v_isiIL, Fz.v_isiT, Fz.v_isiTI, Fz.v_isiTL, Fz.v_eqF, Fz.v_neF, Fz.v_ixf0, Fz.v_ixf1, Fz.v_isif, Fz.v_lenf, Fz.v_reprP, Fz.e_m, Fz.v_appR, Fz.v_isB, Fz.v_isNN, Fz.v_isNI, Fz.v_isNT, Fz.v_isNF, Fz.v_isNR, Fz.v_notNN, Fz.v_notNI, Fz.v_notNT, Fz.v_notNF, Fz.v_notNR, Fz.v_tupleR, Fz.v_tupleT, Fz.v_tupleF, Fz.v_listR, Fz.v_listT, Fz.v_sumAT, Fz.v_sumAR, Fz.v_mulAI, Fz.v_mulAR, Fz.v_andI, Fz.s_r3, Fz.v_revR, Fz.g_tpf, Fz.v_eqB, Fz.v_neB, Fz.v_eqTI, Fz.g_tlR, Fz.v_joinR, Fz.v_mulAC, Fz.v_lr, Fz.c_F, Fz.d_F, Fz.if_false', Fz.if_true', Fz.cellQ_lst, Fz.optQ_some, Fz.atI_0, Fz.atI_1, Fz.atI_n, Fz.ixN_0, Fz.ixN_1, Fz.ixN_n, List.set_cons_succ, List.set_cons_zero, List.getElem?_cons_succ, List.getElem?_cons_zero, List.length_cons, List.length_nil, List.map_cons, List.map_nil, List.replicate_succ, List.replicate_zero, List.cons_append, List.nil_append, List.append_assoc, List.append_nil, Fz.permL, List.filterMap_cons, List.filterMap_nil, Fz.wipeD, List.length_set, List.set_set, Nat.reduceAdd, Nat.reduceLT, Nat.reduceLeDiff, Nat.reduceSub, Nat.reduceEqDiff, Int.reduceAdd, Int.reduceToNat, Int.reducePow, decide_eq_true_eq, if_true, if_false, ite_true, ite_false, true_and, and_true, not_false_eq_true, not_true_eq_false, false_and, and_false, Bool.false_eq_true, Bool.true_eq_false, Bool.not_true, Bool.not_false, Fz.set_at, Fz.gc_selfS, Fz.app_at, Fz.app_at0, Fz.app_lt, Fz.gc_appI, Fz.gc_appB, Fz.gc_appS, Fz.gc_appN, Fz.cutD_map, Fz.ints_int, List.flatten_cons, List.flatten_nil, Nat.add_assoc, Fz.mapO_fr, Fz.mapO_int, Fz.nr_frs, Fz.nr_ints, Fz.py_int, Fz.py_str, Fz.py_bl, Fz.py_non, Fz.py_tup, Fz.line0, Fz.lint0, Fz.line1, Fz.lint1, Fz.line2, Fz.lint2, Fz.line3, Fz.lint3, Fz.line4, Fz.lint4, Fz.line5, Fz.lint5, Fz.line6, Fz.lint6, Fz.line7, Fz.lint7, Fz.line8, Fz.lint8, Fz.line9, Fz.lint9, Fz.line10, Fz.lint10, Fz.line11, Fz.lint11, Fz.line12, Fz.lint12, Fz.line13, Fz.lint13, Fz.line14, Fz.lint14, Fz.line15, Fz.lint15, Fz.line16, Fz.lint16, Fz.line17, Fz.lint17, Fz.line18, Fz.lint18, Fz.line19, Fz.lint19, Fz.line20, Fz.lint20, Fz.line21, Fz.lint21, Fz.line22, Fz.lint22, Fz.line23, Fz.lint23, Fz.line24, Fz.lint24, Fz.set_atk, Fz.set_at0, Fz.optC_lst, Fz.py_fr, Fz.py_refC, Fz.ty_list, Fz.ty_str, Fz.nr_fr, Fz.gc_kS, Fz.gc_kI, Fz.gc_kB, Fz.cellNo, Fz.noRef.noRefs, Fz.noRef, List.all_cons, List.all_nil, List.take_succ_cons, List.take_zero, Nat.le_refl, Nat.reduceLeDiff, Fz.mapO, Option.map_some, Fz.eqQ_some, List.cons_beq_cons, Nat.reduceBEq, Nat.reduceBNe, Bool.and_true, Bool.true_and, Bool.false_and, Bool.and_false, beq_self_eq_true, Bool.or_true, Bool.true_or, Bool.or_false, Bool.false_or, Fz.bls_map, List.length_append, k_MOST_TRIPLE]
  refine ⟨d1, by exact Fz.Bd.ok (by repeat' (first | assumption | exact (show Fz.Bd 64 _ by decide) | apply Fz.Bd.mul | apply Fz.Bd.add' | apply Fz.Bd.sub' | apply Fz.Bd.neg)) (by repeat' (first | assumption | exact (show Fz.Bd 64 _ by decide) | apply Fz.Bd.mul | apply Fz.Bd.add' | apply Fz.Bd.sub' | apply Fz.Bd.neg)), d1, by split <;> (simp only [B62, Bool.and_eq_true, decide_eq_true_eq]; omega), ?_⟩
  refine for_seq (fun i e T => i ≤ o1 q ∧ T = S ++ [.lst (((List.range i).flatMap (tF q)).map tr)] ∧ ∃ a b c d f, e = [some (fr q), some (.ref S.length), a, b, c, d, f]) ⟨by omega, rfl, _, _, _, _, _, rfl⟩ ?_ ?_
  · rintro i d e T hd ⟨_, rfl, xa, xb, xc, xd, xf, rfl⟩
    obtain ⟨hi', rfl⟩ := intsD_get hd
    have hio : i < o1 q := hi'
    have ho1 := o1_le h
    have hl := h.left i
    have ho : 0 < q.2 / q.1 + 1 + (i : Int) := by omega
    have hm : 0 < q.2 * (q.2 / q.1 + 1 + (i : Int)) := Int.mul_pos (by omega) ho
    have b3 : Bd 12 (q.2 / q.1 + 1 + (i : Int)) := show _ < 4096 by omega
    have f1 : Frq 12 q := ⟨b1.mono (by decide), b2.mono (by decide), by omega⟩
    have f2 : Frq 12 ((1, q.2 / q.1 + 1 + (i : Int) * 1) : Int × Int) := ⟨show Bd 12 1 by decide, by rw [Int.mul_one]; exact b3, by rw [Int.mul_one]; exact ho⟩
    have e0 := less_by_eq (S := S ++ [.lst (((List.range i).flatMap (tF q)).map tr)]) f1 f2 (by decide) (by decide)
    simp only [Int.mul_one, Int.one_mul] at e0
    rw [g_nm]
    simp -implicitDefEqProofs only [Fz.r_ok, Fz.r_stuck, Fz.r_ite, Fz.r_bind, Fz.r_fl, Fz.r_fl0, Fz.f_ite, Fz.x_nil, Fz.x_seq, Fz.x_expr, Fz.x_ret, Fz.x_retN, Fz.x_brk, Fz.x_cnt, Fz.x_stuck, Fz.x_if, Fz.x_asg, Fz.x_par2, Fz.x_par3, Fz.g_nm, Fz.g_nil, Fz.g_cons, Fz.g_tp, Fz.g_sb, Fz.g_set, Fz.e_var0, Fz.e_varS, Fz.e_c, Fz.e_1, Fz.e_2, Fz.e_n, Fz.e_gc, Fz.e_if, Fz.e_and, Fz.e_or, Fz.e_not, Fz.e_ch, Fz.e_sl, Fz.o_none, Fz.o_some, Fz.a_nil, Fz.a_cons, Fz.a_app, Fz.a_star, Fz.t_of, Fz.t_bl, Fz.t_not, Fz.t_and, Fz.t_or, Fz.t_yes, Fz.b_bl, Fz.u_bl, Fz.u_int, Fz.u_non, Fz.u_tup, Fz.u_frl, Fz.u_str, Fz.v_addI, Fz.v_addS, Fz.v_addT, Fz.v_subI, Fz.v_mulII, Fz.v_divI, Fz.v_modI, Fz.v_powI, Fz.v_shlI, Fz.v_shrI, Fz.v_negI, Fz.v_cmpI, Fz.v_tup, Fz.v_lst, Fz.v_absI, Fz.v_maxI, Fz.v_minI, Fz.v_intI, Fz.v_intB, Fz.v_gcdI, Fz.v_dmI, Fz.v_lenS, Fz.v_lenT, Fz.v_lenF, Fz.v_lenR, Fz.v_ixT, Fz.v_ixF, Fz.v_ixR, Fz.v_ixS, Fz.v_slT, Fz.v_slF, Fz.v_slR, Fz.v_slS, Fz.v_revS, Fz.v_eqS, Fz.v_neS, Fz.v_eqI, Fz.v_neI, Fz.v_eqT, Fz.v_neT, Fz.v_eqR, Fz.v_neR, Fz.v_inC, Fz.v_ninC, Fz.x_for, Fz.i_of, Fz.i_arg, Fz.s_tup, Fz.s_frl, Fz.s_str, Fz.s_ref, Fz.s_r1, Fz.s_r2, Fz.e_lc, Fz.r_nox, Fz.v_allR, Fz.v_anyR, Fz.v_sumR, Fz.i_int, Fz.s_starT, Fz.v_isiS, Fz.v_isiSI, Fz.v_isiI, Fz.v_isiIB, Fz.v_isiIS, Fz.v_isiIT, Fz.v_isiIL, Fz.v_isiT, Fz.v_isiTI, Fz.v_isiTL, Fz.v_eqF, Fz.v_neF, Fz.v_ixf0, Fz.v_ixf1, Fz.v_isif, Fz.v_lenf, Fz.v_reprP, Fz.e_m, Fz.v_appR, Fz.v_isB, Fz.v_isNN, Fz.v_isNI, Fz.v_isNT, Fz.v_isNF, Fz.v_isNR, Fz.v_notNN, Fz.v_notNI, Fz.v_notNT, Fz.v_notNF, Fz.v_notNR, Fz.v_tupleR, Fz.v_tupleT, Fz.v_tupleF, Fz.v_listR, Fz.v_listT, Fz.v_sumAT, Fz.v_sumAR, Fz.v_mulAI, Fz.v_mulAR, Fz.v_andI, Fz.s_r3, Fz.v_revR, Fz.g_tpf, Fz.v_eqB, Fz.v_neB, Fz.v_eqTI, Fz.g_tlR, Fz.v_joinR, Fz.v_mulAC, Fz.v_lr, Fz.c_F, Fz.d_F, Fz.if_false', Fz.if_true', Fz.cellQ_lst, Fz.optQ_some, Fz.atI_0, Fz.atI_1, Fz.atI_n, Fz.ixN_0, Fz.ixN_1, Fz.ixN_n, List.set_cons_succ, List.set_cons_zero, List.getElem?_cons_succ, List.getElem?_cons_zero, List.length_cons, List.length_nil, List.map_cons, List.map_nil, List.replicate_succ, List.replicate_zero, List.cons_append, List.nil_append, List.append_assoc, List.append_nil, Fz.permL, List.filterMap_cons, List.filterMap_nil, Fz.wipeD, List.length_set, List.set_set, Nat.reduceAdd, Nat.reduceLT, Nat.reduceLeDiff, Nat.reduceSub, Nat.reduceEqDiff, Int.reduceAdd, Int.reduceToNat, Int.reducePow, decide_eq_true_eq, if_true, if_false, ite_true, ite_false, true_and, and_true, not_false_eq_true, not_true_eq_false, false_and, and_false, Bool.false_eq_true, Bool.true_eq_false, Bool.not_true, Bool.not_false, Fz.set_at, Fz.gc_selfS, Fz.app_at, Fz.app_at0, Fz.app_lt, Fz.gc_appI, Fz.gc_appB, Fz.gc_appS, Fz.gc_appN, Fz.cutD_map, Fz.ints_int, List.flatten_cons, List.flatten_nil, Nat.add_assoc, Fz.mapO_fr, Fz.mapO_int, Fz.nr_frs, Fz.nr_ints, Fz.py_int, Fz.py_str, Fz.py_bl, Fz.py_non, Fz.py_tup, Fz.line0, Fz.lint0, Fz.line1, Fz.lint1, Fz.line2, Fz.lint2, Fz.line3, Fz.lint3, Fz.line4, Fz.lint4, Fz.line5, Fz.lint5, Fz.line6, Fz.lint6, Fz.line7, Fz.lint7, Fz.line8, Fz.lint8, Fz.line9, Fz.lint9, Fz.line10, Fz.lint10, Fz.line11, Fz.lint11, Fz.line12, Fz.lint12, Fz.line13, Fz.lint13, Fz.line14, Fz.lint14, Fz.line15, Fz.lint15, Fz.line16, Fz.lint16, Fz.line17, Fz.lint17, Fz.line18, Fz.lint18, Fz.line19, Fz.lint19, Fz.line20, Fz.lint20, Fz.line21, Fz.lint21, Fz.line22, Fz.lint22, Fz.line23, Fz.lint23, Fz.line24, Fz.lint24, Fz.set_atk, Fz.set_at0, Fz.optC_lst, Fz.py_fr, Fz.py_refC, Fz.ty_list, Fz.ty_str, Fz.nr_fr, Fz.gc_kS, Fz.gc_kI, Fz.gc_kB, Fz.cellNo, Fz.noRef.noRefs, Fz.noRef, List.all_cons, List.all_nil, List.take_succ_cons, List.take_zero, Nat.le_refl, Nat.reduceLeDiff, Fz.mapO, Option.map_some, Fz.eqQ_some, List.cons_beq_cons, Nat.reduceBEq, Nat.reduceBNe, Bool.and_true, Bool.true_and, Bool.false_and, Bool.and_false, beq_self_eq_true, Bool.or_true, Bool.true_or, Bool.or_false, Bool.false_or, Fz.bls_map, List.length_append, fr_mk, Int.mul_one, e0, k_MOST_TRIPLE]
    have hmul := red_mul (a := q.1 * (q.2 / q.1 + 1 + (i : Int)) - q.2) hm
    have hg := gI_pos (a := q.1 * (q.2 / q.1 + 1 + (i : Int)) - q.2) hm
    have hr2 := red_pos (a := q.1 * (q.2 / q.1 + 1 + (i : Int)) - q.2) hm
    have hbd := red_frq (n := 23) hm (((b1.mul b3).sub (b2.mono (by decide))).mono (by decide)) ((b2.mul b3).mono (by decide))
    have eF : tF q i = inn (red (q.1 * (q.2 / q.1 + 1 + (i : Int)) - q.2) (q.2 * (q.2 / q.1 + 1 + (i : Int)))).1 (red (q.1 * (q.2 / q.1 + 1 + (i : Int)) - q.2) (q.2 * (q.2 / q.1 + 1 + (i : Int)))).2 (q.2 / q.1 + 1 + (i : Int)) 999 := by
      unfold tF
      have this := inn_scale (L := (red (q.1 * (q.2 / q.1 + 1 + (i : Int)) - q.2) (q.2 * (q.2 / q.1 + 1 + (i : Int)))).1) (U := (red (q.1 * (q.2 / q.1 + 1 + (i : Int)) - q.2) (q.2 * (q.2 / q.1 + 1 + (i : Int)))).2) (o := q.2 / q.1 + 1 + (i : Int)) (m := 999) hg
      rw [← hmul.1, ← hmul.2] at this; exact this
    have hr1 : 0 < (red (q.1 * (q.2 / q.1 + 1 + (i : Int)) - q.2) (q.2 * (q.2 / q.1 + 1 + (i : Int)))).1 := by
      rcases Int.lt_or_le 0 (red (q.1 * (q.2 / q.1 + 1 + (i : Int)) - q.2) (q.2 * (q.2 / q.1 + 1 + (i : Int)))).1 with z | z
      · exact z
      · have := Int.mul_le_mul_of_nonneg_right z (Int.le_of_lt hg)
        rw [Int.zero_mul, ← hmul.1] at this; omega
    have hfl := flat_len h i
    generalize red (q.1 * (q.2 / q.1 + 1 + (i : Int)) - q.2) (q.2 * (q.2 / q.1 + 1 + (i : Int))) = r at *
    clear hmul hg e0 f1 f2 hd
    obtain ⟨c1, c2, c3⟩ := hbd
    have ob : 0 ≤ q.2 / q.1 + 1 + (i : Int) ∧ q.2 / q.1 + 1 + (i : Int) ≤ 1999 := by omega
    generalize q.2 / q.1 + 1 + (i : Int) = o at *
    have dr : divOk r.1 := c1.div hr1
    have q0 := Int.ediv_nonneg (Int.le_of_lt c3) (Int.le_of_lt hr1)
    have q1 := Int.ediv_le_self r.1 (Int.le_of_lt c3)
    have q2 := Int.ediv_nonneg (show 0 ≤ 2 * r.2 by omega) (Int.le_of_lt hr1)
    have hr2b : r.2 < 8388608 := by have : r.2.natAbs < 8388608 := c2; omega
    refine ⟨dr, by exact Fz.Bd.ok (by repeat' (first | assumption | exact (show Fz.Bd 64 _ by decide) | apply Fz.Bd.mul | apply Fz.Bd.add' | apply Fz.Bd.sub' | apply Fz.Bd.neg)) (by repeat' (first | assumption | exact (show Fz.Bd 64 _ by decide) | apply Fz.Bd.mul | apply Fz.Bd.add' | apply Fz.Bd.sub' | apply Fz.Bd.neg)), dr, ⟨by split <;> (simp only [B62, Bool.and_eq_true, decide_eq_true_eq]; omega), by split <;> (simp only [B62, Bool.and_eq_true, decide_eq_true_eq]; omega)⟩, ?_⟩
    refine for_seq (fun j e T => T = S ++ [.lst (((List.range i).flatMap (tF q) ++ (List.range j).filterMap fun (k : Nat) => it r.1 r.2 o (lo r.1 r.2 o + k)).map tr)] ∧ ∃ b d f, e = [some (fr q), some (.ref S.length), some (.int o), some (fr r), b, d, f]) ⟨by simp, _, _, _, rfl⟩ ?_ ?_
    · rintro j d e T hd ⟨rfl, xb, xd, xf, rfl⟩
      obtain ⟨hj, rfl⟩ := intsD_get hd
      rw [g_nm, in_step j]
      have hlo : 1 ≤ lo r.1 r.2 o := by unfold lo; split <;> omega
      have hhi := hi_le r.1 r.2 999
      have hj' : j < (hi r.1 r.2 999 - lo r.1 r.2 o).toNat := hj
      have ew : ((if r.2 / r.1 > o then r.2 / r.1 else o) + 1 + (j : Int) * 1) = lo r.1 r.2 o + (j : Int) := by rw [Int.mul_one]; rfl
      rw [ew]
      have hw1 : lo r.1 r.2 o + (j : Int) ≤ 1000 := by omega
      have hw0 : 0 ≤ lo r.1 r.2 o + (j : Int) := by omega
      have hlast : 0 < r.1 * (lo r.1 r.2 o + (j : Int)) - r.2 := by
        have h1 := Int.lt_ediv_add_one_mul_self r.2 hr1
        have h2 : r.2 / r.1 + 1 ≤ lo r.1 r.2 o + (j : Int) := by unfold lo; split <;> omega
        have h3 := Int.mul_le_mul_of_nonneg_left h2 (Int.le_of_lt hr1)
        rw [Int.mul_comm r.1 (r.2 / r.1 + 1)] at h3; omega
      generalize lo r.1 r.2 o + (j : Int) = w at *
      have bw : Bd 10 w := show _ < 1024 by omega
      have dl : divOk (r.1 * w - r.2) := Bd.div (n := 40) ((((c1.mul bw).mono (m := 34) (by decide)).sub (c2.mono (by decide))).mono (by decide)) hlast
      have hfj := List.length_filterMap_le (fun (k : Nat) => it r.1 r.2 o (lo r.1 r.2 o + k)) (List.range j)
      rw [List.length_range] at hfj
      simp -implicitDefEqProofs only [Fz.r_ok, Fz.r_stuck, Fz.r_ite, Fz.r_bind, Fz.r_fl, Fz.r_fl0, Fz.f_ite, Fz.x_nil, Fz.x_seq, Fz.x_expr, Fz.x_ret, Fz.x_retN, Fz.x_brk, Fz.x_cnt, Fz.x_stuck, Fz.x_if, Fz.x_asg, Fz.x_par2, Fz.x_par3, Fz.g_nm, Fz.g_nil, Fz.g_cons, Fz.g_tp, Fz.g_sb, Fz.g_set, Fz.e_var0, Fz.e_varS, Fz.e_c, Fz.e_1, Fz.e_2, Fz.e_n, Fz.e_gc, Fz.e_if, Fz.e_and, Fz.e_or, Fz.e_not, Fz.e_ch, Fz.e_sl, Fz.o_none, Fz.o_some, Fz.a_nil, Fz.a_cons, Fz.a_app, Fz.a_star, Fz.t_of, Fz.t_bl, Fz.t_not, Fz.t_and, Fz.t_or, Fz.t_yes, Fz.b_bl, Fz.u_bl, Fz.u_int, Fz.u_non, Fz.u_tup, Fz.u_frl, Fz.u_str, Fz.v_addI, Fz.v_addS, Fz.v_addT, Fz.v_subI, Fz.v_mulII, Fz.v_divI, Fz.v_modI, Fz.v_powI, Fz.v_shlI, Fz.v_shrI, Fz.v_negI, Fz.v_cmpI, Fz.v_tup, Fz.v_lst, Fz.v_absI, Fz.v_maxI, Fz.v_minI, Fz.v_intI, Fz.v_intB, Fz.v_gcdI, Fz.v_dmI, Fz.v_lenS, Fz.v_lenT, Fz.v_lenF, Fz.v_lenR, Fz.v_ixT, Fz.v_ixF, Fz.v_ixR, Fz.v_ixS, Fz.v_slT, Fz.v_slF, Fz.v_slR, Fz.v_slS, Fz.v_revS, Fz.v_eqS, Fz.v_neS, Fz.v_eqI, Fz.v_neI, Fz.v_eqT, Fz.v_neT, Fz.v_eqR, Fz.v_neR, Fz.v_inC, Fz.v_ninC, Fz.x_for, Fz.i_of, Fz.i_arg, Fz.s_tup, Fz.s_frl, Fz.s_str, Fz.s_ref, Fz.s_r1, Fz.s_r2, Fz.e_lc, Fz.r_nox, Fz.v_allR, Fz.v_anyR, Fz.v_sumR, Fz.i_int, Fz.s_starT, Fz.v_isiS, Fz.v_isiSI, Fz.v_isiI, Fz.v_isiIB, Fz.v_isiIS, Fz.v_isiIT, Fz.v_isiIL, Fz.v_isiT, Fz.v_isiTI, Fz.v_isiTL, Fz.v_eqF, Fz.v_neF, Fz.v_ixf0, Fz.v_ixf1, Fz.v_isif, Fz.v_lenf, Fz.v_reprP, Fz.e_m, Fz.v_appR, Fz.v_isB, Fz.v_isNN, Fz.v_isNI, Fz.v_isNT, Fz.v_isNF, Fz.v_isNR, Fz.v_notNN, Fz.v_notNI, Fz.v_notNT, Fz.v_notNF, Fz.v_notNR, Fz.v_tupleR, Fz.v_tupleT, Fz.v_tupleF, Fz.v_listR, Fz.v_listT, Fz.v_sumAT, Fz.v_sumAR, Fz.v_mulAI, Fz.v_mulAR, Fz.v_andI, Fz.s_r3, Fz.v_revR, Fz.g_tpf, Fz.v_eqB, Fz.v_neB, Fz.v_eqTI, Fz.g_tlR, Fz.v_joinR, Fz.v_mulAC, Fz.v_lr, Fz.c_F, Fz.d_F, Fz.if_false', Fz.if_true', Fz.cellQ_lst, Fz.optQ_some, Fz.atI_0, Fz.atI_1, Fz.atI_n, Fz.ixN_0, Fz.ixN_1, Fz.ixN_n, List.set_cons_succ, List.set_cons_zero, List.getElem?_cons_succ, List.getElem?_cons_zero, List.length_cons, List.length_nil, List.map_cons, List.map_nil, List.replicate_succ, List.replicate_zero, List.cons_append, List.nil_append, List.append_assoc, List.append_nil, Fz.permL, List.filterMap_cons, List.filterMap_nil, Fz.wipeD, List.length_set, List.set_set, Nat.reduceAdd, Nat.reduceLT, Nat.reduceLeDiff, Nat.reduceSub, Nat.reduceEqDiff, Int.reduceAdd, Int.reduceToNat, Int.reducePow, decide_eq_true_eq, if_true, if_false, ite_true, ite_false, true_and, and_true, not_false_eq_true, not_true_eq_false, false_and, and_false, Bool.false_eq_true, Bool.true_eq_false, Bool.not_true, Bool.not_false, Fz.set_at, Fz.gc_selfS, Fz.app_at, Fz.app_at0, Fz.app_lt, Fz.gc_appI, Fz.gc_appB, Fz.gc_appS, Fz.gc_appN, Fz.cutD_map, Fz.ints_int, List.flatten_cons, List.flatten_nil, Nat.add_assoc, Fz.mapO_fr, Fz.mapO_int, Fz.nr_frs, Fz.nr_ints, Fz.py_int, Fz.py_str, Fz.py_bl, Fz.py_non, Fz.py_tup, Fz.line0, Fz.lint0, Fz.line1, Fz.lint1, Fz.line2, Fz.lint2, Fz.line3, Fz.lint3, Fz.line4, Fz.lint4, Fz.line5, Fz.lint5, Fz.line6, Fz.lint6, Fz.line7, Fz.lint7, Fz.line8, Fz.lint8, Fz.line9, Fz.lint9, Fz.line10, Fz.lint10, Fz.line11, Fz.lint11, Fz.line12, Fz.lint12, Fz.line13, Fz.lint13, Fz.line14, Fz.lint14, Fz.line15, Fz.lint15, Fz.line16, Fz.lint16, Fz.line17, Fz.lint17, Fz.line18, Fz.lint18, Fz.line19, Fz.lint19, Fz.line20, Fz.lint20, Fz.line21, Fz.lint21, Fz.line22, Fz.lint22, Fz.line23, Fz.lint23, Fz.line24, Fz.lint24, Fz.set_atk, Fz.set_at0, Fz.optC_lst, Fz.py_fr, Fz.py_refC, Fz.ty_list, Fz.ty_str, Fz.nr_fr, Fz.gc_kS, Fz.gc_kI, Fz.gc_kB, Fz.cellNo, Fz.noRef.noRefs, Fz.noRef, List.all_cons, List.all_nil, List.take_succ_cons, List.take_zero, Nat.le_refl, Nat.reduceLeDiff, Fz.mapO, Option.map_some, Fz.eqQ_some, List.cons_beq_cons, Nat.reduceBEq, Nat.reduceBNe, Bool.and_true, Bool.true_and, Bool.false_and, Bool.and_false, beq_self_eq_true, Bool.or_true, Bool.true_or, Bool.or_false, Bool.false_or, Fz.bls_map, List.length_append, k_MOST_TRIPLE, tr_mk]
      refine ⟨by exact Fz.Bd.ok (by repeat' (first | assumption | exact (show Fz.Bd 64 _ by decide) | apply Fz.Bd.mul | apply Fz.Bd.add' | apply Fz.Bd.sub' | apply Fz.Bd.neg)) (by repeat' (first | assumption | exact (show Fz.Bd 64 _ by decide) | apply Fz.Bd.mul | apply Fz.Bd.add' | apply Fz.Bd.sub' | apply Fz.Bd.neg)), by exact Fz.Bd.ok (by repeat' (first | assumption | exact (show Fz.Bd 64 _ by decide) | apply Fz.Bd.mul | apply Fz.Bd.add' | apply Fz.Bd.sub' | apply Fz.Bd.neg)) (by repeat' (first | assumption | exact (show Fz.Bd 64 _ by decide) | apply Fz.Bd.mul | apply Fz.Bd.add' | apply Fz.Bd.sub' | apply Fz.Bd.neg)), ?_⟩
      by_cases z1 : (r.2 * w) % (r.1 * w - r.2) = 0
      · by_cases z2 : w < r.2 * w / (r.1 * w - r.2)
        · by_cases z3 : r.2 * w / (r.1 * w - r.2) ≤ 999
          · have eI : it r.1 r.2 o w = some (o, w, r.2 * w / (r.1 * w - r.2)) := by unfold it; rw [if_pos ⟨hlast, z1, z2, z3⟩]
            refine ⟨hlast, ?_⟩
            rw [if_pos (by rw [z1]; rfl), if_pos z2, if_pos z3]
            exact ⟨dl, dl, by rw [List.length_map, List.length_append]; omega, by simp only [eI, Option.toList_some, List.map_append, List.append_assoc, List.map_cons, List.map_nil], _, _, _, rfl⟩
          · have eI : it r.1 r.2 o w = none := by unfold it; rw [if_neg]; rintro ⟨_, _, _, x⟩; exact z3 x
            refine ⟨hlast, ?_⟩
            rw [if_pos (by rw [z1]; rfl), if_pos z2, if_neg z3]
            exact ⟨dl, by rw [eI, Option.toList_none, List.append_nil], _, _, _, rfl⟩
        · have eI : it r.1 r.2 o w = none := by unfold it; rw [if_neg]; rintro ⟨_, _, x, _⟩; exact z2 x
          refine ⟨hlast, ?_⟩
          rw [if_pos (by rw [z1]; rfl), if_neg z2]
          exact ⟨dl, by rw [eI, Option.toList_none, List.append_nil], _, _, _, rfl⟩
      · have eI : it r.1 r.2 o w = none := by unfold it; rw [if_neg]; rintro ⟨_, x, _, _⟩; exact z1 x
        refine ⟨hlast, ?_⟩
        rw [if_neg (by simpa using z1)]
        exact ⟨by rw [eI, Option.toList_none, List.append_nil], _, _, _, rfl⟩
    · rintro e T ⟨rfl, xb, xd, xf, rfl⟩
      rw [intsD_len]
      refine ⟨hio, ?_, _, _, _, _, _, rfl⟩
      rw [List.range_succ, List.flatMap_append, List.flatMap_singleton, eF]; rfl
  · rintro e T ⟨_, rfl, xa, xb, xc, xd, xf, rfl⟩
    rw [intsD_len]
    simp -implicitDefEqProofs only [Fz.r_ok, Fz.r_stuck, Fz.r_ite, Fz.r_bind, Fz.r_fl, Fz.r_fl0, Fz.f_ite, Fz.x_nil, Fz.x_seq, Fz.x_expr, Fz.x_ret, Fz.x_retN, Fz.x_brk, Fz.x_cnt, Fz.x_stuck, Fz.x_if, Fz.x_asg, Fz.x_par2, Fz.x_par3, Fz.g_nm, Fz.g_nil, Fz.g_cons, Fz.g_tp, Fz.g_sb, Fz.g_set, Fz.e_var0, Fz.e_varS, Fz.e_c, Fz.e_1, Fz.e_2, Fz.e_n, Fz.e_gc, Fz.e_if, Fz.e_and, Fz.e_or, Fz.e_not, Fz.e_ch, Fz.e_sl, Fz.o_none, Fz.o_some, Fz.a_nil, Fz.a_cons, Fz.a_app, Fz.a_star, Fz.t_of, Fz.t_bl, Fz.t_not, Fz.t_and, Fz.t_or, Fz.t_yes, Fz.b_bl, Fz.u_bl, Fz.u_int, Fz.u_non, Fz.u_tup, Fz.u_frl, Fz.u_str, Fz.v_addI, Fz.v_addS, Fz.v_addT, Fz.v_subI, Fz.v_mulII, Fz.v_divI, Fz.v_modI, Fz.v_powI, Fz.v_shlI, Fz.v_shrI, Fz.v_negI, Fz.v_cmpI, Fz.v_tup, Fz.v_lst, Fz.v_absI, Fz.v_maxI, Fz.v_minI, Fz.v_intI, Fz.v_intB, Fz.v_gcdI, Fz.v_dmI, Fz.v_lenS, Fz.v_lenT, Fz.v_lenF, Fz.v_lenR, Fz.v_ixT, Fz.v_ixF, Fz.v_ixR, Fz.v_ixS, Fz.v_slT, Fz.v_slF, Fz.v_slR, Fz.v_slS, Fz.v_revS, Fz.v_eqS, Fz.v_neS, Fz.v_eqI, Fz.v_neI, Fz.v_eqT, Fz.v_neT, Fz.v_eqR, Fz.v_neR, Fz.v_inC, Fz.v_ninC, Fz.x_for, Fz.i_of, Fz.i_arg, Fz.s_tup, Fz.s_frl, Fz.s_str, Fz.s_ref, Fz.s_r1, Fz.s_r2, Fz.e_lc, Fz.r_nox, Fz.v_allR, Fz.v_anyR, Fz.v_sumR, Fz.i_int, Fz.s_starT, Fz.v_isiS, Fz.v_isiSI, Fz.v_isiI, Fz.v_isiIB, Fz.v_isiIS, Fz.v_isiIT, Fz.v_isiIL, Fz.v_isiT, Fz.v_isiTI, Fz.v_isiTL, Fz.v_eqF, Fz.v_neF, Fz.v_ixf0, Fz.v_ixf1, Fz.v_isif, Fz.v_lenf, Fz.v_reprP, Fz.e_m, Fz.v_appR, Fz.v_isB, Fz.v_isNN, Fz.v_isNI, Fz.v_isNT, Fz.v_isNF, Fz.v_isNR, Fz.v_notNN, Fz.v_notNI, Fz.v_notNT, Fz.v_notNF, Fz.v_notNR, Fz.v_tupleR, Fz.v_tupleT, Fz.v_tupleF, Fz.v_listR, Fz.v_listT, Fz.v_sumAT, Fz.v_sumAR, Fz.v_mulAI, Fz.v_mulAR, Fz.v_andI, Fz.s_r3, Fz.v_revR, Fz.g_tpf, Fz.v_eqB, Fz.v_neB, Fz.v_eqTI, Fz.g_tlR, Fz.v_joinR, Fz.v_mulAC, Fz.v_lr, Fz.c_F, Fz.d_F, Fz.if_false', Fz.if_true', Fz.cellQ_lst, Fz.optQ_some, Fz.atI_0, Fz.atI_1, Fz.atI_n, Fz.ixN_0, Fz.ixN_1, Fz.ixN_n, List.set_cons_succ, List.set_cons_zero, List.getElem?_cons_succ, List.getElem?_cons_zero, List.length_cons, List.length_nil, List.map_cons, List.map_nil, List.replicate_succ, List.replicate_zero, List.cons_append, List.nil_append, List.append_assoc, List.append_nil, Fz.permL, List.filterMap_cons, List.filterMap_nil, Fz.wipeD, List.length_set, List.set_set, Nat.reduceAdd, Nat.reduceLT, Nat.reduceLeDiff, Nat.reduceSub, Nat.reduceEqDiff, Int.reduceAdd, Int.reduceToNat, Int.reducePow, decide_eq_true_eq, if_true, if_false, ite_true, ite_false, true_and, and_true, not_false_eq_true, not_true_eq_false, false_and, and_false, Bool.false_eq_true, Bool.true_eq_false, Bool.not_true, Bool.not_false, Fz.set_at, Fz.gc_selfS, Fz.app_at, Fz.app_at0, Fz.app_lt, Fz.gc_appI, Fz.gc_appB, Fz.gc_appS, Fz.gc_appN, Fz.cutD_map, Fz.ints_int, List.flatten_cons, List.flatten_nil, Nat.add_assoc, Fz.mapO_fr, Fz.mapO_int, Fz.nr_frs, Fz.nr_ints, Fz.py_int, Fz.py_str, Fz.py_bl, Fz.py_non, Fz.py_tup, Fz.line0, Fz.lint0, Fz.line1, Fz.lint1, Fz.line2, Fz.lint2, Fz.line3, Fz.lint3, Fz.line4, Fz.lint4, Fz.line5, Fz.lint5, Fz.line6, Fz.lint6, Fz.line7, Fz.lint7, Fz.line8, Fz.lint8, Fz.line9, Fz.lint9, Fz.line10, Fz.lint10, Fz.line11, Fz.lint11, Fz.line12, Fz.lint12, Fz.line13, Fz.lint13, Fz.line14, Fz.lint14, Fz.line15, Fz.lint15, Fz.line16, Fz.lint16, Fz.line17, Fz.lint17, Fz.line18, Fz.lint18, Fz.line19, Fz.lint19, Fz.line20, Fz.lint20, Fz.line21, Fz.lint21, Fz.line22, Fz.lint22, Fz.line23, Fz.lint23, Fz.line24, Fz.lint24, Fz.set_atk, Fz.set_at0, Fz.optC_lst, Fz.py_fr, Fz.py_refC, Fz.ty_list, Fz.ty_str, Fz.nr_fr, Fz.gc_kS, Fz.gc_kI, Fz.gc_kB, Fz.cellNo, Fz.noRef.noRefs, Fz.noRef, List.all_cons, List.all_nil, List.take_succ_cons, List.take_zero, Nat.le_refl, Nat.reduceLeDiff, Fz.mapO, Option.map_some, Fz.eqQ_some, List.cons_beq_cons, Nat.reduceBEq, Nat.reduceBNe, Bool.and_true, Bool.true_and, Bool.false_and, Bool.and_false, beq_self_eq_true, Bool.or_true, Bool.true_or, Bool.or_false, Bool.false_or, Fz.bls_map, List.length_append]
    rw [gc_app hw (by rw [noRef]; exact nr_trs _ _)]
    exact ⟨rfl, rfl⟩)
theorem nr_intsD (n : Nat) (a c : Int) (k : Nat) : noRef.noRefs n (intsD a c k) = true := by
  have : intsD a c k = ((List.range k).map fun (k : Nat) => a + (k : Int) * c).map D.int := by rw [List.map_map]; rfl
  rw [this]; exact nr_ints _ _
def p3 (x : Tr) : PyData := .tuple [.int x.1, .int x.2.1, .int x.2.2]
theorem mapO_tr {S : Sto} (n : Nat) (qs : List Tr) : mapO (toPy S (n + 2)) (qs.map tr) = some (qs.map p3) := by
  induction qs with
  | nil => rfl
  | cons q qs ih => rw [List.map_cons, List.map_cons]; exact mapO_cons _ _ _ _ _ rfl ih
theorem asc_trs {qs : List Tr} {n : Nat} (h : ∀ q ∈ qs, Bd n q.1 ∧ Bd n q.2.1 ∧ Bd n q.2.2) (hn : 0 < n ∧ n ≤ 1000) : asc.ascs (qs.map p3) = true ∧ cst.csts (qs.map p3) ≤ qs.length * (3 * n + 20) := by
  induction qs with
  | nil => simp [asc.ascs, cst.csts]
  | cons q qs ih =>
    have ⟨i1, i2⟩ := ih fun x hx => h x (List.mem_cons_of_mem _ hx)
    have ⟨h1, h2, h3⟩ := h q List.mem_cons_self
    have a1 := h1.log hn.1; have a2 := h2.log hn.1; have a3 := h3.log hn.1
    constructor
    · simp [asc.ascs, asc, i1, p3]; omega
    · simp only [List.map_cons, cst.csts, cst, p3, List.length_cons, Nat.add_mul]; omega
theorem depth_trs (qs : List Tr) : PyData.depthAll (qs.map p3) ≤ 1 := by
  induction qs with
  | nil => simp [PyData.depthAll]
  | cons q qs ih => simp [PyData.depthAll, PyData.depth, p3] at ih ⊢; omega
theorem tl_bd {q : Int × Int} (h : Pt q) : ∀ x ∈ tl q, Bd 10 x.1 ∧ Bd 10 x.2.1 ∧ Bd 10 x.2.2 := by
  intro x hx
  have n := h.num
  unfold tl at hx
  rw [List.mem_flatMap] at hx
  obtain ⟨k, hk, hx⟩ := hx
  rw [List.mem_range] at hk
  have ho := o1_le h
  have hk' : k < ((if 3 * q.2 / q.1 < 999 then 3 * q.2 / q.1 else 999) + 1 - (q.2 / q.1 + 1)).toNat := hk
  unfold tF inn at hx
  rw [List.mem_filterMap] at hx
  obtain ⟨j, hj, hx⟩ := hx
  have hlo : 1 ≤ lo (q.1 * (q.2 / q.1 + 1 + (k : Int)) - q.2) (q.2 * (q.2 / q.1 + 1 + (k : Int))) (q.2 / q.1 + 1 + (k : Int)) := by unfold lo; split <;> omega
  unfold it at hx
  split at hx
  · rename_i hc
    cases hx
    refine ⟨?_, ?_, ?_⟩
    · show _ < 1024; dsimp only; split at hk' <;> omega
    · show _ < 1024; dsimp only; omega
    · show _ < 1024; dsimp only; omega
  · cases hx
theorem o1_90 {q : Int × Int} (h : Pt q) (hb : q.2 ≤ 30 * q.1) : o1 q ≤ 90 := by
  have n := h.num
  have h3 : 3 * q.2 / q.1 ≤ 90 := Int.ediv_le_of_le_mul h.2.1 (by omega)
  unfold o1; split <;> omega
theorem ok_trs {q : Int × Int} (h : Pt q) (hb : q.2 ≤ 30 * q.1) : okShow (.list [.tuple ((tl q).map p3), .tuple ((tl q).map p3)]) := by
  have ⟨a1, a2⟩ := asc_trs (n := 10) (tl_bd h) (by decide)
  have hl : (tl q).length ≤ o1 q * 999 := flat_len h _
  have h90 := o1_90 h hb
  have hd := depth_trs (tl q)
  refine okShow_of ?_ ?_ ?_
  · simp [asc, asc.ascs, a1]
  · simp [PyData.depth, PyData.depthAll]; omega
  · have : LINE = 16777216 := rfl
    simp [cst, cst.csts]; omega
theorem triples_eq {q : Int × Int} {S : Sto} (h : Pt q) (hw : Wf S) : F_triples [fr q] S = .ok (.tup ((tl q).map tr)) S := sat_eq (by
  unfold F_triples b_triples
  simp -implicitDefEqProofs only [Fz.r_ok, Fz.r_stuck, Fz.r_ite, Fz.r_bind, Fz.r_fl, Fz.r_fl0, Fz.f_ite, Fz.x_nil, Fz.x_seq, Fz.x_expr, Fz.x_ret, Fz.x_retN, Fz.x_brk, Fz.x_cnt, Fz.x_stuck, Fz.x_if, Fz.x_asg, Fz.x_par2, Fz.x_par3, Fz.g_nm, Fz.g_nil, Fz.g_cons, Fz.g_tp, Fz.g_sb, Fz.g_set, Fz.e_var0, Fz.e_varS, Fz.e_c, Fz.e_1, Fz.e_2, Fz.e_n, Fz.e_gc, Fz.e_if, Fz.e_and, Fz.e_or, Fz.e_not, Fz.e_ch, Fz.e_sl, Fz.o_none, Fz.o_some, Fz.a_nil, Fz.a_cons, Fz.a_app, Fz.a_star, Fz.t_of, Fz.t_bl, Fz.t_not, Fz.t_and, Fz.t_or, Fz.t_yes, Fz.b_bl, Fz.u_bl, Fz.u_int, Fz.u_non, Fz.u_tup, Fz.u_frl, Fz.u_str, Fz.v_addI, Fz.v_addS, Fz.v_addT, Fz.v_subI, Fz.v_mulII, Fz.v_divI, Fz.v_modI, Fz.v_powI, Fz.v_shlI, Fz.v_shrI, Fz.v_negI, Fz.v_cmpI, Fz.v_tup, Fz.v_lst, Fz.v_absI, Fz.v_maxI, Fz.v_minI, Fz.v_intI, Fz.v_intB, Fz.v_gcdI, Fz.v_dmI, Fz.v_lenS, Fz.v_lenT, Fz.v_lenF, Fz.v_lenR, Fz.v_ixT, Fz.v_ixF, Fz.v_ixR, Fz.v_ixS, Fz.v_slT, Fz.v_slF, Fz.v_slR, Fz.v_slS, Fz.v_revS, Fz.v_eqS, Fz.v_neS, Fz.v_eqI, Fz.v_neI, Fz.v_eqT, Fz.v_neT, Fz.v_eqR, Fz.v_neR, Fz.v_inC, Fz.v_ninC, Fz.x_for, Fz.i_of, Fz.i_arg, Fz.s_tup, Fz.s_frl, Fz.s_str, Fz.s_ref, Fz.s_r1, Fz.s_r2, Fz.e_lc, Fz.r_nox, Fz.v_allR, Fz.v_anyR, Fz.v_sumR, Fz.i_int, Fz.s_starT, Fz.v_isiS, Fz.v_isiSI, Fz.v_isiI, Fz.v_isiIB, Fz.v_isiIS, Fz.v_isiIT, Fz.v_isiIL, Fz.v_isiT, Fz.v_isiTI, Fz.v_isiTL, Fz.v_eqF, Fz.v_neF, Fz.v_ixf0, Fz.v_ixf1, Fz.v_isif, Fz.v_lenf, Fz.v_reprP, Fz.e_m, Fz.v_appR, Fz.v_isB, Fz.v_isNN, Fz.v_isNI, Fz.v_isNT, Fz.v_isNF, Fz.v_isNR, Fz.v_notNN, Fz.v_notNI, Fz.v_notNT, Fz.v_notNF, Fz.v_notNR, Fz.v_tupleR, Fz.v_tupleT, Fz.v_tupleF, Fz.v_listR, Fz.v_listT, Fz.v_sumAT, Fz.v_sumAR, Fz.v_mulAI, Fz.v_mulAR, Fz.v_andI, Fz.s_r3, Fz.v_revR, Fz.g_tpf, Fz.v_eqB, Fz.v_neB, Fz.v_eqTI, Fz.g_tlR, Fz.v_joinR, Fz.v_mulAC, Fz.v_lr, Fz.c_F, Fz.d_F, Fz.if_false', Fz.if_true', Fz.cellQ_lst, Fz.optQ_some, Fz.atI_0, Fz.atI_1, Fz.atI_n, Fz.ixN_0, Fz.ixN_1, Fz.ixN_n, List.set_cons_succ, List.set_cons_zero, List.getElem?_cons_succ, List.getElem?_cons_zero, List.length_cons, List.length_nil, List.map_cons, List.map_nil, List.replicate_succ, List.replicate_zero, List.cons_append, List.nil_append, List.append_assoc, List.append_nil, Fz.permL, List.filterMap_cons, List.filterMap_nil, Fz.wipeD, List.length_set, List.set_set, Nat.reduceAdd, Nat.reduceLT, Nat.reduceLeDiff, Nat.reduceSub, Nat.reduceEqDiff, Int.reduceAdd, Int.reduceToNat, Int.reducePow, decide_eq_true_eq, if_true, if_false, ite_true, ite_false, true_and, and_true, not_false_eq_true, not_true_eq_false, false_and, and_false, Bool.false_eq_true, Bool.true_eq_false, Bool.not_true, Bool.not_false, Fz.set_at, Fz.gc_selfS, Fz.app_at, Fz.app_at0, Fz.app_lt, Fz.gc_appI, Fz.gc_appB, Fz.gc_appS, Fz.gc_appN, Fz.cutD_map, Fz.ints_int, List.flatten_cons, List.flatten_nil, Nat.add_assoc, Fz.mapO_fr, Fz.mapO_int, Fz.nr_frs, Fz.nr_ints, Fz.py_int, Fz.py_str, Fz.py_bl, Fz.py_non, Fz.py_tup, Fz.line0, Fz.lint0, Fz.line1, Fz.lint1, Fz.line2, Fz.lint2, Fz.line3, Fz.lint3, Fz.line4, Fz.lint4, Fz.line5, Fz.lint5, Fz.line6, Fz.lint6, Fz.line7, Fz.lint7, Fz.line8, Fz.lint8, Fz.line9, Fz.lint9, Fz.line10, Fz.lint10, Fz.line11, Fz.lint11, Fz.line12, Fz.lint12, Fz.line13, Fz.lint13, Fz.line14, Fz.lint14, Fz.line15, Fz.lint15, Fz.line16, Fz.lint16, Fz.line17, Fz.lint17, Fz.line18, Fz.lint18, Fz.line19, Fz.lint19, Fz.line20, Fz.lint20, Fz.line21, Fz.lint21, Fz.line22, Fz.lint22, Fz.line23, Fz.lint23, Fz.line24, Fz.lint24, Fz.set_atk, Fz.set_at0, Fz.optC_lst, Fz.py_fr, Fz.py_refC, Fz.ty_list, Fz.ty_str, Fz.nr_fr, Fz.gc_kS, Fz.gc_kI, Fz.gc_kB, Fz.cellNo, Fz.noRef.noRefs, Fz.noRef, List.all_cons, List.all_nil, List.take_succ_cons, List.take_zero, Nat.le_refl, Nat.reduceLeDiff, Fz.mapO, Option.map_some, Fz.eqQ_some, List.cons_beq_cons, Nat.reduceBEq, Nat.reduceBNe, Bool.and_true, Bool.true_and, Bool.false_and, Bool.and_false, beq_self_eq_true, Bool.or_true, Bool.true_or, Bool.or_false, Bool.false_or, Fz.bls_map, List.length_append, check_part_eq h.1 h.2.1 h.2.2, triples_by_eq h hw])
theorem right_spec {S : Sto} {p : Nat} {m : Int} (hp : Pl S p) (hw : Wf S) (h0 : 3 ≤ m) (h1 : m ≤ 1000) (mm : (D.int m) ∈ [.int 9, .int 30, .int 99, .int 12]) :
    (F__law_right [.ref p, .int m] S).sat fun d S' => d = .bl true ∧ Pn S p S' := by
  have h1 : m ≤ 999 := by simp at mm; omega
  unfold F__law_right b__law_right
  rw [d_F 2 12 _ [D.ref p, D.int m] rfl]
  simp only [List.map_cons, List.map_nil, Nat.reduceSub, List.replicate_succ, List.replicate_zero, List.cons_append, List.nil_append]
  refine seq_cut (fun e T => Pn S p T ∧ ∃ q, Pt q ∧ e = [some (.ref p), some (.int m), some (fr q), none, none, none, none, none, none, none, none, none]) ?_ ?_
  · simp -implicitDefEqProofs only [Fz.r_ok, Fz.r_stuck, Fz.r_ite, Fz.r_bind, Fz.r_fl, Fz.r_fl0, Fz.f_ite, Fz.x_nil, Fz.x_seq, Fz.x_expr, Fz.x_ret, Fz.x_retN, Fz.x_brk, Fz.x_cnt, Fz.x_stuck, Fz.x_if, Fz.x_asg, Fz.x_par2, Fz.x_par3, Fz.g_nm, Fz.g_nil, Fz.g_cons, Fz.g_tp, Fz.g_sb, Fz.g_set, Fz.e_var0, Fz.e_varS, Fz.e_c, Fz.e_1, Fz.e_2, Fz.e_n, Fz.e_gc, Fz.e_if, Fz.e_and, Fz.e_or, Fz.e_not, Fz.e_ch, Fz.e_sl, Fz.o_none, Fz.o_some, Fz.a_nil, Fz.a_cons, Fz.a_app, Fz.a_star, Fz.t_of, Fz.t_bl, Fz.t_not, Fz.t_and, Fz.t_or, Fz.t_yes, Fz.b_bl, Fz.u_bl, Fz.u_int, Fz.u_non, Fz.u_tup, Fz.u_frl, Fz.u_str, Fz.v_addI, Fz.v_addS, Fz.v_addT, Fz.v_subI, Fz.v_mulII, Fz.v_divI, Fz.v_modI, Fz.v_powI, Fz.v_shlI, Fz.v_shrI, Fz.v_negI, Fz.v_cmpI, Fz.v_tup, Fz.v_lst, Fz.v_absI, Fz.v_maxI, Fz.v_minI, Fz.v_intI, Fz.v_intB, Fz.v_gcdI, Fz.v_dmI, Fz.v_lenS, Fz.v_lenT, Fz.v_lenF, Fz.v_lenR, Fz.v_ixT, Fz.v_ixF, Fz.v_ixR, Fz.v_ixS, Fz.v_slT, Fz.v_slF, Fz.v_slR, Fz.v_slS, Fz.v_revS, Fz.v_eqS, Fz.v_neS, Fz.v_eqI, Fz.v_neI, Fz.v_eqT, Fz.v_neT, Fz.v_eqR, Fz.v_neR, Fz.v_inC, Fz.v_ninC, Fz.x_for, Fz.i_of, Fz.i_arg, Fz.s_tup, Fz.s_frl, Fz.s_str, Fz.s_ref, Fz.s_r1, Fz.s_r2, Fz.e_lc, Fz.r_nox, Fz.v_allR, Fz.v_anyR, Fz.v_sumR, Fz.i_int, Fz.s_starT, Fz.v_isiS, Fz.v_isiSI, Fz.v_isiI, Fz.v_isiIB, Fz.v_isiIS, Fz.v_isiIT, Fz.v_isiIL, Fz.v_isiT, Fz.v_isiTI, Fz.v_isiTL, Fz.v_eqF, Fz.v_neF, Fz.v_ixf0, Fz.v_ixf1, Fz.v_isif, Fz.v_lenf, Fz.v_reprP, Fz.e_m, Fz.v_appR, Fz.v_isB, Fz.v_isNN, Fz.v_isNI, Fz.v_isNT, Fz.v_isNF, Fz.v_isNR, Fz.v_notNN, Fz.v_notNI, Fz.v_notNT, Fz.v_notNF, Fz.v_notNR, Fz.v_tupleR, Fz.v_tupleT, Fz.v_tupleF, Fz.v_listR, Fz.v_listT, Fz.v_sumAT, Fz.v_sumAR, Fz.v_mulAI, Fz.v_mulAR, Fz.v_andI, Fz.s_r3, Fz.v_revR, Fz.g_tpf, Fz.v_eqB, Fz.v_neB, Fz.v_eqTI, Fz.g_tlR, Fz.v_joinR, Fz.v_mulAC, Fz.v_lr, Fz.c_F, Fz.d_F, Fz.if_false', Fz.if_true', Fz.cellQ_lst, Fz.optQ_some, Fz.atI_0, Fz.atI_1, Fz.atI_n, Fz.ixN_0, Fz.ixN_1, Fz.ixN_n, List.set_cons_succ, List.set_cons_zero, List.getElem?_cons_succ, List.getElem?_cons_zero, List.length_cons, List.length_nil, List.map_cons, List.map_nil, List.replicate_succ, List.replicate_zero, List.cons_append, List.nil_append, List.append_assoc, List.append_nil, Fz.permL, List.filterMap_cons, List.filterMap_nil, Fz.wipeD, List.length_set, List.set_set, Nat.reduceAdd, Nat.reduceLT, Nat.reduceLeDiff, Nat.reduceSub, Nat.reduceEqDiff, Int.reduceAdd, Int.reduceToNat, Int.reducePow, decide_eq_true_eq, if_true, if_false, ite_true, ite_false, true_and, and_true, not_false_eq_true, not_true_eq_false, false_and, and_false, Bool.false_eq_true, Bool.true_eq_false, Bool.not_true, Bool.not_false, Fz.set_at, Fz.gc_selfS, Fz.app_at, Fz.app_at0, Fz.app_lt, Fz.gc_appI, Fz.gc_appB, Fz.gc_appS, Fz.gc_appN, Fz.cutD_map, Fz.ints_int, List.flatten_cons, List.flatten_nil, Nat.add_assoc, Fz.mapO_fr, Fz.mapO_int, Fz.nr_frs, Fz.nr_ints, Fz.py_int, Fz.py_str, Fz.py_bl, Fz.py_non, Fz.py_tup, Fz.line0, Fz.lint0, Fz.line1, Fz.lint1, Fz.line2, Fz.lint2, Fz.line3, Fz.lint3, Fz.line4, Fz.lint4, Fz.line5, Fz.lint5, Fz.line6, Fz.lint6, Fz.line7, Fz.lint7, Fz.line8, Fz.lint8, Fz.line9, Fz.lint9, Fz.line10, Fz.lint10, Fz.line11, Fz.lint11, Fz.line12, Fz.lint12, Fz.line13, Fz.lint13, Fz.line14, Fz.lint14, Fz.line15, Fz.lint15, Fz.line16, Fz.lint16, Fz.line17, Fz.lint17, Fz.line18, Fz.lint18, Fz.line19, Fz.lint19, Fz.line20, Fz.lint20, Fz.line21, Fz.lint21, Fz.line22, Fz.lint22, Fz.line23, Fz.lint23, Fz.line24, Fz.lint24, Fz.set_atk, Fz.set_at0, Fz.optC_lst, Fz.py_fr, Fz.py_refC, Fz.ty_list, Fz.ty_str, Fz.nr_fr, Fz.gc_kS, Fz.gc_kI, Fz.gc_kB, Fz.cellNo, Fz.noRef.noRefs, Fz.noRef, List.all_cons, List.all_nil, List.take_succ_cons, List.take_zero, Nat.le_refl, Nat.reduceLeDiff, Fz.mapO, Option.map_some, Fz.eqQ_some, List.cons_beq_cons, Nat.reduceBEq, Nat.reduceBNe, Bool.and_true, Bool.true_and, Bool.false_and, Bool.and_false, beq_self_eq_true, Bool.or_true, Bool.true_or, Bool.or_false, Bool.false_or, Fz.bls_map, List.length_append]
    refine sat_mono (small_spec hp (by omega) h1) ?_
    rintro _ T ⟨q, rfl, gq, q0, q1, ht⟩
    exact ⟨ht, _, ⟨gq, q0, q1⟩, rfl⟩
  rintro _ T ⟨ht, q, pq, rfl⟩
  have hT : Pg S p T := (Pg.self hp hw).pn ht
  have hne : p < T.length := hT.pl.lt
  have n := pq.num
  have b1 : Bd 10 q.1 := show _ < 1024 by omega
  refine seq_cut (fun e V => V = T ∧ ∃ x, Pt x ∧ x.2 ≤ 30 * x.1 ∧ e = [some (.ref p), some (.int m), some (fr x), none, none, none, none, none, none, none, none, none]) ?_ ?_
  · simp -implicitDefEqProofs only [Fz.r_ok, Fz.r_stuck, Fz.r_ite, Fz.r_bind, Fz.r_fl, Fz.r_fl0, Fz.f_ite, Fz.x_nil, Fz.x_seq, Fz.x_expr, Fz.x_ret, Fz.x_retN, Fz.x_brk, Fz.x_cnt, Fz.x_stuck, Fz.x_if, Fz.x_asg, Fz.x_par2, Fz.x_par3, Fz.g_nm, Fz.g_nil, Fz.g_cons, Fz.g_tp, Fz.g_sb, Fz.g_set, Fz.e_var0, Fz.e_varS, Fz.e_c, Fz.e_1, Fz.e_2, Fz.e_n, Fz.e_gc, Fz.e_if, Fz.e_and, Fz.e_or, Fz.e_not, Fz.e_ch, Fz.e_sl, Fz.o_none, Fz.o_some, Fz.a_nil, Fz.a_cons, Fz.a_app, Fz.a_star, Fz.t_of, Fz.t_bl, Fz.t_not, Fz.t_and, Fz.t_or, Fz.t_yes, Fz.b_bl, Fz.u_bl, Fz.u_int, Fz.u_non, Fz.u_tup, Fz.u_frl, Fz.u_str, Fz.v_addI, Fz.v_addS, Fz.v_addT, Fz.v_subI, Fz.v_mulII, Fz.v_divI, Fz.v_modI, Fz.v_powI, Fz.v_shlI, Fz.v_shrI, Fz.v_negI, Fz.v_cmpI, Fz.v_tup, Fz.v_lst, Fz.v_absI, Fz.v_maxI, Fz.v_minI, Fz.v_intI, Fz.v_intB, Fz.v_gcdI, Fz.v_dmI, Fz.v_lenS, Fz.v_lenT, Fz.v_lenF, Fz.v_lenR, Fz.v_ixT, Fz.v_ixF, Fz.v_ixR, Fz.v_ixS, Fz.v_slT, Fz.v_slF, Fz.v_slR, Fz.v_slS, Fz.v_revS, Fz.v_eqS, Fz.v_neS, Fz.v_eqI, Fz.v_neI, Fz.v_eqT, Fz.v_neT, Fz.v_eqR, Fz.v_neR, Fz.v_inC, Fz.v_ninC, Fz.x_for, Fz.i_of, Fz.i_arg, Fz.s_tup, Fz.s_frl, Fz.s_str, Fz.s_ref, Fz.s_r1, Fz.s_r2, Fz.e_lc, Fz.r_nox, Fz.v_allR, Fz.v_anyR, Fz.v_sumR, Fz.i_int, Fz.s_starT, Fz.v_isiS, Fz.v_isiSI, Fz.v_isiI, Fz.v_isiIB, Fz.v_isiIS, Fz.v_isiIT, Fz.v_isiIL, Fz.v_isiT, Fz.v_isiTI, Fz.v_isiTL, Fz.v_eqF, Fz.v_neF, Fz.v_ixf0, Fz.v_ixf1, Fz.v_isif, Fz.v_lenf, Fz.v_reprP, Fz.e_m, Fz.v_appR, Fz.v_isB, Fz.v_isNN, Fz.v_isNI, Fz.v_isNT, Fz.v_isNF, Fz.v_isNR, Fz.v_notNN, Fz.v_notNI, Fz.v_notNT, Fz.v_notNF, Fz.v_notNR, Fz.v_tupleR, Fz.v_tupleT, Fz.v_tupleF, Fz.v_listR, Fz.v_listT, Fz.v_sumAT, Fz.v_sumAR, Fz.v_mulAI, Fz.v_mulAR, Fz.v_andI, Fz.s_r3, Fz.v_revR, Fz.g_tpf, Fz.v_eqB, Fz.v_neB, Fz.v_eqTI, Fz.g_tlR, Fz.v_joinR, Fz.v_mulAC, Fz.v_lr, Fz.c_F, Fz.d_F, Fz.if_false', Fz.if_true', Fz.cellQ_lst, Fz.optQ_some, Fz.atI_0, Fz.atI_1, Fz.atI_n, Fz.ixN_0, Fz.ixN_1, Fz.ixN_n, List.set_cons_succ, List.set_cons_zero, List.getElem?_cons_succ, List.getElem?_cons_zero, List.length_cons, List.length_nil, List.map_cons, List.map_nil, List.replicate_succ, List.replicate_zero, List.cons_append, List.nil_append, List.append_assoc, List.append_nil, Fz.permL, List.filterMap_cons, List.filterMap_nil, Fz.wipeD, List.length_set, List.set_set, Nat.reduceAdd, Nat.reduceLT, Nat.reduceLeDiff, Nat.reduceSub, Nat.reduceEqDiff, Int.reduceAdd, Int.reduceToNat, Int.reducePow, decide_eq_true_eq, if_true, if_false, ite_true, ite_false, true_and, and_true, not_false_eq_true, not_true_eq_false, false_and, and_false, Bool.false_eq_true, Bool.true_eq_false, Bool.not_true, Bool.not_false, Fz.set_at, Fz.gc_selfS, Fz.app_at, Fz.app_at0, Fz.app_lt, Fz.gc_appI, Fz.gc_appB, Fz.gc_appS, Fz.gc_appN, Fz.cutD_map, Fz.ints_int, List.flatten_cons, List.flatten_nil, Nat.add_assoc, Fz.mapO_fr, Fz.mapO_int, Fz.nr_frs, Fz.nr_ints, Fz.py_int, Fz.py_str, Fz.py_bl, Fz.py_non, Fz.py_tup, Fz.line0, Fz.lint0, Fz.line1, Fz.lint1, Fz.line2, Fz.lint2, Fz.line3, Fz.lint3, Fz.line4, Fz.lint4, Fz.line5, Fz.lint5, Fz.line6, Fz.lint6, Fz.line7, Fz.lint7, Fz.line8, Fz.lint8, Fz.line9, Fz.lint9, Fz.line10, Fz.lint10, Fz.line11, Fz.lint11, Fz.line12, Fz.lint12, Fz.line13, Fz.lint13, Fz.line14, Fz.lint14, Fz.line15, Fz.lint15, Fz.line16, Fz.lint16, Fz.line17, Fz.lint17, Fz.line18, Fz.lint18, Fz.line19, Fz.lint19, Fz.line20, Fz.lint20, Fz.line21, Fz.lint21, Fz.line22, Fz.lint22, Fz.line23, Fz.lint23, Fz.line24, Fz.lint24, Fz.set_atk, Fz.set_at0, Fz.optC_lst, Fz.py_fr, Fz.py_refC, Fz.ty_list, Fz.ty_str, Fz.nr_fr, Fz.gc_kS, Fz.gc_kI, Fz.gc_kB, Fz.cellNo, Fz.noRef.noRefs, Fz.noRef, List.all_cons, List.all_nil, List.take_succ_cons, List.take_zero, Nat.le_refl, Nat.reduceLeDiff, Fz.mapO, Option.map_some, Fz.eqQ_some, List.cons_beq_cons, Nat.reduceBEq, Nat.reduceBNe, Bool.and_true, Bool.true_and, Bool.false_and, Bool.and_false, beq_self_eq_true, Bool.or_true, Bool.true_or, Bool.or_false, Bool.false_or, Fz.bls_map, List.length_append, fr_mk]
    refine ⟨by exact Fz.Bd.ok (by repeat' (first | assumption | exact (show Fz.Bd 64 _ by decide) | apply Fz.Bd.mul | apply Fz.Bd.add' | apply Fz.Bd.sub' | apply Fz.Bd.neg)) (by repeat' (first | assumption | exact (show Fz.Bd 64 _ by decide) | apply Fz.Bd.mul | apply Fz.Bd.add' | apply Fz.Bd.sub' | apply Fz.Bd.neg)), ?_⟩
    split
    · refine ⟨by decide, _, ?_, ?_, rfl⟩
      · have z0 := Int.emod_nonneg q.2 (show (30 : Int) ≠ 0 by decide)
        have z1 := Int.emod_lt_of_pos q.2 (show (0 : Int) < 30 by decide)
        exact ⟨⟨show (0 : Int) ≤ 1 by decide, show (1 : Int) ≤ 999 by decide, show 1 ≤ 1 + q.2 % 30 by omega, show 1 + q.2 % 30 ≤ 999 by omega, by simp⟩, show (0 : Int) < 1 by decide, show 1 ≤ 1 + q.2 % 30 by omega⟩
      · show 1 + q.2 % 30 ≤ 30 * 1
        have z1 := Int.emod_lt_of_pos q.2 (show (0 : Int) < 30 by decide)
        omega
    · exact ⟨_, pq, by omega, rfl⟩
  · clear b1 pq n q
    rintro e V ⟨rfl, q, pq, hb, rfl⟩
    have n := pq.num
    have b1 : Bd 10 q.1 := show _ < 1024 by omega
    have b2 : Bd 10 q.2 := show _ < 1024 by omega
    have d1 : divOk q.1 := b1.div (by omega)
    have hA : Pg S p (V ++ [.lst []]) := hT.add rfl
    have hin : (V ++ [Cell.lst []])[V.length]? = some (.lst []) := app_at0 _ _
    simp -implicitDefEqProofs only [Fz.r_ok, Fz.r_stuck, Fz.r_ite, Fz.r_bind, Fz.r_fl, Fz.r_fl0, Fz.f_ite, Fz.x_nil, Fz.x_seq, Fz.x_expr, Fz.x_ret, Fz.x_retN, Fz.x_brk, Fz.x_cnt, Fz.x_stuck, Fz.x_if, Fz.x_asg, Fz.x_par2, Fz.x_par3, Fz.g_nm, Fz.g_nil, Fz.g_cons, Fz.g_tp, Fz.g_sb, Fz.g_set, Fz.e_var0, Fz.e_varS, Fz.e_c, Fz.e_1, Fz.e_2, Fz.e_n, Fz.e_gc, Fz.e_if, Fz.e_and, Fz.e_or, Fz.e_not, Fz.e_ch, Fz.e_sl, Fz.o_none, Fz.o_some, Fz.a_nil, Fz.a_cons, Fz.a_app, Fz.a_star, Fz.t_of, Fz.t_bl, Fz.t_not, Fz.t_and, Fz.t_or, Fz.t_yes, Fz.b_bl, Fz.u_bl, Fz.u_int, Fz.u_non, Fz.u_tup, Fz.u_frl, Fz.u_str, Fz.v_addI, Fz.v_addS, Fz.v_addT, Fz.v_subI, Fz.v_mulII, Fz.v_divI, Fz.v_modI, Fz.v_powI, Fz.v_shlI, Fz.v_shrI, Fz.v_negI, Fz.v_cmpI, Fz.v_tup, Fz.v_lst, Fz.v_absI, Fz.v_maxI, Fz.v_minI, Fz.v_intI, Fz.v_intB, Fz.v_gcdI, Fz.v_dmI, Fz.v_lenS, Fz.v_lenT, Fz.v_lenF, Fz.v_lenR, Fz.v_ixT, Fz.v_ixF, Fz.v_ixR, Fz.v_ixS, Fz.v_slT, Fz.v_slF, Fz.v_slR, Fz.v_slS, Fz.v_revS, Fz.v_eqS, Fz.v_neS, Fz.v_eqI, Fz.v_neI, Fz.v_eqT, Fz.v_neT, Fz.v_eqR, Fz.v_neR, Fz.v_inC, Fz.v_ninC, Fz.x_for, Fz.i_of, Fz.i_arg, Fz.s_tup, Fz.s_frl, Fz.s_str, Fz.s_ref, Fz.s_r1, Fz.s_r2, Fz.e_lc, Fz.r_nox, Fz.v_allR, Fz.v_anyR, Fz.v_sumR, Fz.i_int, Fz.s_starT, Fz.v_isiS, Fz.v_isiSI, Fz.v_isiI, Fz.v_isiIB, Fz.v_isiIS, Fz.v_isiIT, Fz.v_isiIL, Fz.v_isiT, Fz.v_isiTI, Fz.v_isiTL, Fz.v_eqF, Fz.v_neF, Fz.v_ixf0, Fz.v_ixf1, Fz.v_isif, Fz.v_lenf, Fz.v_reprP, Fz.e_m, Fz.v_appR, Fz.v_isB, Fz.v_isNN, Fz.v_isNI, Fz.v_isNT, Fz.v_isNF, Fz.v_isNR, Fz.v_notNN, Fz.v_notNI, Fz.v_notNT, Fz.v_notNF, Fz.v_notNR, Fz.v_tupleR, Fz.v_tupleT, Fz.v_tupleF, Fz.v_listR, Fz.v_listT, Fz.v_sumAT, Fz.v_sumAR, Fz.v_mulAI, Fz.v_mulAR, Fz.v_andI, Fz.s_r3, Fz.v_revR, Fz.g_tpf, Fz.v_eqB, Fz.v_neB, Fz.v_eqTI, Fz.g_tlR, Fz.v_joinR, Fz.v_mulAC, Fz.v_lr, Fz.c_F, Fz.d_F, Fz.if_false', Fz.if_true', Fz.cellQ_lst, Fz.optQ_some, Fz.atI_0, Fz.atI_1, Fz.atI_n, Fz.ixN_0, Fz.ixN_1, Fz.ixN_n, List.set_cons_succ, List.set_cons_zero, List.getElem?_cons_succ, List.getElem?_cons_zero, List.length_cons, List.length_nil, List.map_cons, List.map_nil, List.replicate_succ, List.replicate_zero, List.cons_append, List.nil_append, List.append_assoc, List.append_nil, Fz.permL, List.filterMap_cons, List.filterMap_nil, Fz.wipeD, List.length_set, List.set_set, Nat.reduceAdd, Nat.reduceLT, Nat.reduceLeDiff, Nat.reduceSub, Nat.reduceEqDiff, Int.reduceAdd, Int.reduceToNat, Int.reducePow, decide_eq_true_eq, if_true, if_false, ite_true, ite_false, true_and, and_true, not_false_eq_true, not_true_eq_false, false_and, and_false, Bool.false_eq_true, Bool.true_eq_false, Bool.not_true, Bool.not_false, Fz.set_at, Fz.gc_selfS, Fz.app_at, Fz.app_at0, Fz.app_lt, Fz.gc_appI, Fz.gc_appB, Fz.gc_appS, Fz.gc_appN, Fz.cutD_map, Fz.ints_int, List.flatten_cons, List.flatten_nil, Nat.add_assoc, Fz.mapO_fr, Fz.mapO_int, Fz.nr_frs, Fz.nr_ints, Fz.py_int, Fz.py_str, Fz.py_bl, Fz.py_non, Fz.py_tup, Fz.line0, Fz.lint0, Fz.line1, Fz.lint1, Fz.line2, Fz.lint2, Fz.line3, Fz.lint3, Fz.line4, Fz.lint4, Fz.line5, Fz.lint5, Fz.line6, Fz.lint6, Fz.line7, Fz.lint7, Fz.line8, Fz.lint8, Fz.line9, Fz.lint9, Fz.line10, Fz.lint10, Fz.line11, Fz.lint11, Fz.line12, Fz.lint12, Fz.line13, Fz.lint13, Fz.line14, Fz.lint14, Fz.line15, Fz.lint15, Fz.line16, Fz.lint16, Fz.line17, Fz.lint17, Fz.line18, Fz.lint18, Fz.line19, Fz.lint19, Fz.line20, Fz.lint20, Fz.line21, Fz.lint21, Fz.line22, Fz.lint22, Fz.line23, Fz.lint23, Fz.line24, Fz.lint24, Fz.set_atk, Fz.set_at0, Fz.optC_lst, Fz.py_fr, Fz.py_refC, Fz.ty_list, Fz.ty_str, Fz.nr_fr, Fz.gc_kS, Fz.gc_kI, Fz.gc_kB, Fz.cellNo, Fz.noRef.noRefs, Fz.noRef, List.all_cons, List.all_nil, List.take_succ_cons, List.take_zero, Nat.le_refl, Nat.reduceLeDiff, Fz.mapO, Option.map_some, Fz.eqQ_some, List.cons_beq_cons, Nat.reduceBEq, Nat.reduceBNe, Bool.and_true, Bool.true_and, Bool.false_and, Bool.and_false, beq_self_eq_true, Bool.or_true, Bool.true_or, Bool.or_false, Bool.false_or, Fz.bls_map, List.length_append]
    generalize hW : V ++ [Cell.lst []] = W at *
    refine ⟨d1, by exact Fz.Bd.ok (by repeat' (first | assumption | exact (show Fz.Bd 64 _ by decide) | apply Fz.Bd.mul | apply Fz.Bd.add' | apply Fz.Bd.sub' | apply Fz.Bd.neg)) (by repeat' (first | assumption | exact (show Fz.Bd 64 _ by decide) | apply Fz.Bd.mul | apply Fz.Bd.add' | apply Fz.Bd.sub' | apply Fz.Bd.neg)), d1, by split <;> (simp only [B62, Bool.and_eq_true, decide_eq_true_eq]; omega), ?_⟩
    refine for_seq (fun i e T => Pg S p T ∧ T[V.length]? = some (.lst (((List.range (i - 1)).flatMap (tF q)).map tr)) ∧ ∃ a b c d f g, e = [some (.ref p), some (.int m), some (fr q), a, some (.ref V.length), some (.int q.1), some (.int q.2), b, c, d, f, g]) ⟨hA, hin, _, _, _, _, _, _, rfl⟩ ?_ ?_
    · rintro i d e T hd ⟨hG, hc, xa, xb, xc, xd, xf, xg, rfl⟩
      obtain ⟨hi', rfl⟩ := intsD_get hd
      rw [g_nm]
      have hT2 := lt_of_get hc
      have hle := hT.le
      have hpT : p < T.length := hG.pl.lt
      simp -implicitDefEqProofs only [Fz.r_ok, Fz.r_stuck, Fz.r_ite, Fz.r_bind, Fz.r_fl, Fz.r_fl0, Fz.f_ite, Fz.x_nil, Fz.x_seq, Fz.x_expr, Fz.x_ret, Fz.x_retN, Fz.x_brk, Fz.x_cnt, Fz.x_stuck, Fz.x_if, Fz.x_asg, Fz.x_par2, Fz.x_par3, Fz.g_nm, Fz.g_nil, Fz.g_cons, Fz.g_tp, Fz.g_sb, Fz.g_set, Fz.e_var0, Fz.e_varS, Fz.e_c, Fz.e_1, Fz.e_2, Fz.e_n, Fz.e_gc, Fz.e_if, Fz.e_and, Fz.e_or, Fz.e_not, Fz.e_ch, Fz.e_sl, Fz.o_none, Fz.o_some, Fz.a_nil, Fz.a_cons, Fz.a_app, Fz.a_star, Fz.t_of, Fz.t_bl, Fz.t_not, Fz.t_and, Fz.t_or, Fz.t_yes, Fz.b_bl, Fz.u_bl, Fz.u_int, Fz.u_non, Fz.u_tup, Fz.u_frl, Fz.u_str, Fz.v_addI, Fz.v_addS, Fz.v_addT, Fz.v_subI, Fz.v_mulII, Fz.v_divI, Fz.v_modI, Fz.v_powI, Fz.v_shlI, Fz.v_shrI, Fz.v_negI, Fz.v_cmpI, Fz.v_tup, Fz.v_lst, Fz.v_absI, Fz.v_maxI, Fz.v_minI, Fz.v_intI, Fz.v_intB, Fz.v_gcdI, Fz.v_dmI, Fz.v_lenS, Fz.v_lenT, Fz.v_lenF, Fz.v_lenR, Fz.v_ixT, Fz.v_ixF, Fz.v_ixR, Fz.v_ixS, Fz.v_slT, Fz.v_slF, Fz.v_slR, Fz.v_slS, Fz.v_revS, Fz.v_eqS, Fz.v_neS, Fz.v_eqI, Fz.v_neI, Fz.v_eqT, Fz.v_neT, Fz.v_eqR, Fz.v_neR, Fz.v_inC, Fz.v_ninC, Fz.x_for, Fz.i_of, Fz.i_arg, Fz.s_tup, Fz.s_frl, Fz.s_str, Fz.s_ref, Fz.s_r1, Fz.s_r2, Fz.e_lc, Fz.r_nox, Fz.v_allR, Fz.v_anyR, Fz.v_sumR, Fz.i_int, Fz.s_starT, Fz.v_isiS, Fz.v_isiSI, Fz.v_isiI, Fz.v_isiIB, Fz.v_isiIS, Fz.v_isiIT, Fz.v_isiIL, Fz.v_isiT, Fz.v_isiTI, Fz.v_isiTL, Fz.v_eqF, Fz.v_neF, Fz.v_ixf0, Fz.v_ixf1, Fz.v_isif, Fz.v_lenf, Fz.v_reprP, Fz.e_m, Fz.v_appR, Fz.v_isB, Fz.v_isNN, Fz.v_isNI, Fz.v_isNT, Fz.v_isNF, Fz.v_isNR, Fz.v_notNN, Fz.v_notNI, Fz.v_notNT, Fz.v_notNF, Fz.v_notNR, Fz.v_tupleR, Fz.v_tupleT, Fz.v_tupleF, Fz.v_listR, Fz.v_listT, Fz.v_sumAT, Fz.v_sumAR, Fz.v_mulAI, Fz.v_mulAR, Fz.v_andI, Fz.s_r3, Fz.v_revR, Fz.g_tpf, Fz.v_eqB, Fz.v_neB, Fz.v_eqTI, Fz.g_tlR, Fz.v_joinR, Fz.v_mulAC, Fz.v_lr, Fz.c_F, Fz.d_F, Fz.if_false', Fz.if_true', Fz.cellQ_lst, Fz.optQ_some, Fz.atI_0, Fz.atI_1, Fz.atI_n, Fz.ixN_0, Fz.ixN_1, Fz.ixN_n, List.set_cons_succ, List.set_cons_zero, List.getElem?_cons_succ, List.getElem?_cons_zero, List.length_cons, List.length_nil, List.map_cons, List.map_nil, List.replicate_succ, List.replicate_zero, List.cons_append, List.nil_append, List.append_assoc, List.append_nil, Fz.permL, List.filterMap_cons, List.filterMap_nil, Fz.wipeD, List.length_set, List.set_set, Nat.reduceAdd, Nat.reduceLT, Nat.reduceLeDiff, Nat.reduceSub, Nat.reduceEqDiff, Int.reduceAdd, Int.reduceToNat, Int.reducePow, decide_eq_true_eq, if_true, if_false, ite_true, ite_false, true_and, and_true, not_false_eq_true, not_true_eq_false, false_and, and_false, Bool.false_eq_true, Bool.true_eq_false, Bool.not_true, Bool.not_false, Fz.set_at, Fz.gc_selfS, Fz.app_at, Fz.app_at0, Fz.app_lt, Fz.gc_appI, Fz.gc_appB, Fz.gc_appS, Fz.gc_appN, Fz.cutD_map, Fz.ints_int, List.flatten_cons, List.flatten_nil, Nat.add_assoc, Fz.mapO_fr, Fz.mapO_int, Fz.nr_frs, Fz.nr_ints, Fz.py_int, Fz.py_str, Fz.py_bl, Fz.py_non, Fz.py_tup, Fz.line0, Fz.lint0, Fz.line1, Fz.lint1, Fz.line2, Fz.lint2, Fz.line3, Fz.lint3, Fz.line4, Fz.lint4, Fz.line5, Fz.lint5, Fz.line6, Fz.lint6, Fz.line7, Fz.lint7, Fz.line8, Fz.lint8, Fz.line9, Fz.lint9, Fz.line10, Fz.lint10, Fz.line11, Fz.lint11, Fz.line12, Fz.lint12, Fz.line13, Fz.lint13, Fz.line14, Fz.lint14, Fz.line15, Fz.lint15, Fz.line16, Fz.lint16, Fz.line17, Fz.lint17, Fz.line18, Fz.lint18, Fz.line19, Fz.lint19, Fz.line20, Fz.lint20, Fz.line21, Fz.lint21, Fz.line22, Fz.lint22, Fz.line23, Fz.lint23, Fz.line24, Fz.lint24, Fz.set_atk, Fz.set_at0, Fz.optC_lst, Fz.py_fr, Fz.py_refC, Fz.ty_list, Fz.ty_str, Fz.nr_fr, Fz.gc_kS, Fz.gc_kI, Fz.gc_kB, Fz.cellNo, Fz.noRef.noRefs, Fz.noRef, List.all_cons, List.all_nil, List.take_succ_cons, List.take_zero, Nat.le_refl, Nat.reduceLeDiff, Fz.mapO, Option.map_some, Fz.eqQ_some, List.cons_beq_cons, Nat.reduceBEq, Nat.reduceBNe, Bool.and_true, Bool.true_and, Bool.false_and, Bool.and_false, beq_self_eq_true, Bool.or_true, Bool.true_or, Bool.or_false, Bool.false_or, Fz.bls_map, List.length_append, Int.mul_one]
      rcases i with _ | k
      · have h0 := Int.mul_ediv_self_le (x := q.2) (k := q.1) (by omega)
        have bo : Bd 10 (q.2 / q.1 + ((0 : Nat) : Int)) := show _ < 1024 by omega
        refine ⟨by exact Fz.Bd.ok (by repeat' (first | assumption | exact (show Fz.Bd 64 _ by decide) | apply Fz.Bd.mul | apply Fz.Bd.add' | apply Fz.Bd.sub' | apply Fz.Bd.neg)) (by repeat' (first | assumption | exact (show Fz.Bd 64 _ by decide) | apply Fz.Bd.mul | apply Fz.Bd.add' | apply Fz.Bd.sub' | apply Fz.Bd.neg)), by exact Fz.Bd.ok (by repeat' (first | assumption | exact (show Fz.Bd 64 _ by decide) | apply Fz.Bd.mul | apply Fz.Bd.add' | apply Fz.Bd.sub' | apply Fz.Bd.neg)) (by repeat' (first | assumption | exact (show Fz.Bd 64 _ by decide) | apply Fz.Bd.mul | apply Fz.Bd.add' | apply Fz.Bd.sub' | apply Fz.Bd.neg)), ?_⟩
        rw [if_neg (by rw [show q.2 / q.1 + ((0 : Nat) : Int) = q.2 / q.1 by omega]; omega)]
        refine for_cell (ds := []) rfl (fun j e W => W = T ++ [.lst []] ∧ ∃ a b c d f g, e = [some (.ref p), some (.int m), some (fr q), a, some (.ref V.length), some (.int q.1), some (.int q.2), b, c, d, f, g]) ?_ ⟨rfl, _, _, _, _, _, _, rfl⟩ ?_ ?_
        · rintro j e W ⟨rfl, -⟩; exact app_at0 _ _
        · rintro j d e W hd; simp at hd
        · rintro e W ⟨rfl, xa, xb, xc, xd, xf, xg, rfl⟩
          exact ⟨hG.add rfl, by rw [app_lt hT2]; exact hc, _, _, _, _, _, _, rfl⟩
      · have eo : q.2 / q.1 + ((k + 1 : Nat) : Int) = q.2 / q.1 + 1 + (k : Int) := by omega
        have hko : k < o1 q := by unfold o1; split at hi' <;> split <;> omega
        have ho1 := o1_90 pq hb
        have hfl := flat_len pq k
        have hl := pq.left k
        have hoo : q.2 / q.1 + 1 + (k : Int) ≤ 1000 := by split at hi' <;> omega
        have eT : tF q k = inn (q.1 * (q.2 / q.1 + 1 + k) - q.2) (q.2 * (q.2 / q.1 + 1 + k)) (q.2 / q.1 + 1 + k) 998 := inn_998 _ _ _
        have eR : (List.range (k + 1 + 1 - 1)).flatMap (tF q) = (List.range k).flatMap (tF q) ++ tF q k := by
          rw [show k + 1 + 1 - 1 = k + 1 by omega, List.range_succ, List.flatMap_append, List.flatMap_singleton]
        rw [show k + 1 - 1 = k by omega] at hc
        rw [eR, eT]
        simp only [eo]
        clear eo eR eT hi' hd
        have ho : 0 < q.2 / q.1 + 1 + (k : Int) := by omega
        generalize q.2 / q.1 + 1 + (k : Int) = o at *
        have bo : Bd 10 o := show _ < 1024 by omega
        refine ⟨by exact Fz.Bd.ok (by repeat' (first | assumption | exact (show Fz.Bd 64 _ by decide) | apply Fz.Bd.mul | apply Fz.Bd.add' | apply Fz.Bd.sub' | apply Fz.Bd.neg)) (by repeat' (first | assumption | exact (show Fz.Bd 64 _ by decide) | apply Fz.Bd.mul | apply Fz.Bd.add' | apply Fz.Bd.sub' | apply Fz.Bd.neg)), by exact Fz.Bd.ok (by repeat' (first | assumption | exact (show Fz.Bd 64 _ by decide) | apply Fz.Bd.mul | apply Fz.Bd.add' | apply Fz.Bd.sub' | apply Fz.Bd.neg)) (by repeat' (first | assumption | exact (show Fz.Bd 64 _ by decide) | apply Fz.Bd.mul | apply Fz.Bd.add' | apply Fz.Bd.sub' | apply Fz.Bd.neg)), ?_⟩
        have bL : Bd 21 (q.1 * o - q.2) := ((b1.mul bo).sub (b2.mono (by decide)))
        have bU : Bd 20 (q.2 * o) := b2.mul bo
        have hU0 : 0 < q.2 * o := Int.mul_pos (by omega) ho
        generalize hLe : q.1 * o - q.2 = L at *
        generalize hUe : q.2 * o = U at *
        rw [if_pos hl]
        have dL : divOk L := bL.div hl
        have q0 := Int.ediv_nonneg (Int.le_of_lt hU0) (Int.le_of_lt hl)
        have q2 := Int.ediv_nonneg (show 0 ≤ 2 * U by omega) (Int.le_of_lt hl)
        have q1 := Int.ediv_le_self L (Int.le_of_lt hU0)
        have hUb : U < 1048576 := by have : U.natAbs < 1048576 := bU; omega
        have hlo : 1 ≤ lo L U o := by unfold lo; split <;> omega
        have hlo2 : lo L U o ≤ 1048577 := by unfold lo; split <;> omega
        have hhi := hi_le L U 998
        have hh0 : 1 ≤ hi L U 998 := by unfold hi; split <;> omega
        refine ⟨dL, by exact Fz.Bd.ok (by repeat' (first | assumption | exact (show Fz.Bd 64 _ by decide) | apply Fz.Bd.mul | apply Fz.Bd.add' | apply Fz.Bd.sub' | apply Fz.Bd.neg)) (by repeat' (first | assumption | exact (show Fz.Bd 64 _ by decide) | apply Fz.Bd.mul | apply Fz.Bd.add' | apply Fz.Bd.sub' | apply Fz.Bd.neg)), dL, ?_, ?_⟩
        · show RgOk (lo L U o) (hi L U 998)
          exact ⟨by omega, by omega, by omega, by omega, by omega⟩
        · refine for_cell (ds := intsD (lo L U o) 1 (hi L U 998 - lo L U o).toNat) rfl (fun j e W => Pg S p W ∧ W[T.length]? = some (.lst (intsD (lo L U o) 1 (hi L U 998 - lo L U o).toNat)) ∧ W[V.length]? = some (.lst (((List.range k).flatMap (tF q) ++ (List.range j).filterMap fun (k : Nat) => it L U o (lo L U o + k)).map tr)) ∧ ∃ b c d, e = [some (.ref p), some (.int m), some (fr q), some (.int o), some (.ref V.length), some (.int q.1), some (.int q.2), b, c, some (.int L), some (.int U), d]) ?_ ⟨hG.add ?_, app_at0 _ _, by rw [app_lt hT2, hc]; simp, _, _, _, rfl⟩ ?_ ?_
          · rintro j e W ⟨-, h, -⟩; exact h
          · rw [List.all_cons, List.all_nil, Bool.and_true]; exact nr_intsD _ _ _ _
          · rintro j d e W hd ⟨hg, hx, hy, xb, xc, xd, rfl⟩
            obtain ⟨hj, rfl⟩ := intsD_get hd
            rw [g_nm, in_step j, Int.mul_one]
            have hw1 : lo L U o + (j : Int) ≤ 998 := by omega
            have hw0 : 0 ≤ lo L U o + (j : Int) := by omega
            have hfj := List.length_filterMap_le (fun (k : Nat) => it L U o (lo L U o + k)) (List.range j)
            rw [List.length_range] at hfj
            have hVW : V.length < W.length := lt_of_get hy
            generalize lo L U o + (j : Int) = w at *
            have bw : Bd 10 w := show _ < 1024 by omega
            have dl : 0 < L * w - U → divOk (L * w - U) := fun h => Bd.div (n := 40) ((((bL.mul bw).mono (m := 34) (by decide)).sub (bU.mono (by decide))).mono (by decide)) h
            have lenok : (((List.range k).flatMap (tF q) ++ (List.range j).filterMap fun (k : Nat) => it L U o (lo L U o + k)).map tr).length < LINE := by
              have hL : LINE = 16777216 := rfl
              rw [List.length_map, List.length_append]; omega
            simp -implicitDefEqProofs only [Fz.r_ok, Fz.r_stuck, Fz.r_ite, Fz.r_bind, Fz.r_fl, Fz.r_fl0, Fz.f_ite, Fz.x_nil, Fz.x_seq, Fz.x_expr, Fz.x_ret, Fz.x_retN, Fz.x_brk, Fz.x_cnt, Fz.x_stuck, Fz.x_if, Fz.x_asg, Fz.x_par2, Fz.x_par3, Fz.g_nm, Fz.g_nil, Fz.g_cons, Fz.g_tp, Fz.g_sb, Fz.g_set, Fz.e_var0, Fz.e_varS, Fz.e_c, Fz.e_1, Fz.e_2, Fz.e_n, Fz.e_gc, Fz.e_if, Fz.e_and, Fz.e_or, Fz.e_not, Fz.e_ch, Fz.e_sl, Fz.o_none, Fz.o_some, Fz.a_nil, Fz.a_cons, Fz.a_app, Fz.a_star, Fz.t_of, Fz.t_bl, Fz.t_not, Fz.t_and, Fz.t_or, Fz.t_yes, Fz.b_bl, Fz.u_bl, Fz.u_int, Fz.u_non, Fz.u_tup, Fz.u_frl, Fz.u_str, Fz.v_addI, Fz.v_addS, Fz.v_addT, Fz.v_subI, Fz.v_mulII, Fz.v_divI, Fz.v_modI, Fz.v_powI, Fz.v_shlI, Fz.v_shrI, Fz.v_negI, Fz.v_cmpI, Fz.v_tup, Fz.v_lst, Fz.v_absI, Fz.v_maxI, Fz.v_minI, Fz.v_intI, Fz.v_intB, Fz.v_gcdI, Fz.v_dmI, Fz.v_lenS, Fz.v_lenT, Fz.v_lenF, Fz.v_lenR, Fz.v_ixT, Fz.v_ixF, Fz.v_ixR, Fz.v_ixS, Fz.v_slT, Fz.v_slF, Fz.v_slR, Fz.v_slS, Fz.v_revS, Fz.v_eqS, Fz.v_neS, Fz.v_eqI, Fz.v_neI, Fz.v_eqT, Fz.v_neT, Fz.v_eqR, Fz.v_neR, Fz.v_inC, Fz.v_ninC, Fz.x_for, Fz.i_of, Fz.i_arg, Fz.s_tup, Fz.s_frl, Fz.s_str, Fz.s_ref, Fz.s_r1, Fz.s_r2, Fz.e_lc, Fz.r_nox, Fz.v_allR, Fz.v_anyR, Fz.v_sumR, Fz.i_int, Fz.s_starT, Fz.v_isiS, Fz.v_isiSI, Fz.v_isiI, Fz.v_isiIB, Fz.v_isiIS, Fz.v_isiIT, Fz.v_isiIL, Fz.v_isiT, Fz.v_isiTI, Fz.v_isiTL, Fz.v_eqF, Fz.v_neF, Fz.v_ixf0, Fz.v_ixf1, Fz.v_isif, Fz.v_lenf, Fz.v_reprP, Fz.e_m, Fz.v_appR, Fz.v_isB, Fz.v_isNN, Fz.v_isNI, Fz.v_isNT, Fz.v_isNF, Fz.v_isNR, Fz.v_notNN, Fz.v_notNI, Fz.v_notNT, Fz.v_notNF, Fz.v_notNR, Fz.v_tupleR, Fz.v_tupleT, Fz.v_tupleF, Fz.v_listR, Fz.v_listT, Fz.v_sumAT, Fz.v_sumAR, Fz.v_mulAI, Fz.v_mulAR, Fz.v_andI, Fz.s_r3, Fz.v_revR, Fz.g_tpf, Fz.v_eqB, Fz.v_neB, Fz.v_eqTI, Fz.g_tlR, Fz.v_joinR, Fz.v_mulAC, Fz.v_lr, Fz.c_F, Fz.d_F, Fz.if_false', Fz.if_true', Fz.cellQ_lst, Fz.optQ_some, Fz.atI_0, Fz.atI_1, Fz.atI_n, Fz.ixN_0, Fz.ixN_1, Fz.ixN_n, List.set_cons_succ, List.set_cons_zero, List.getElem?_cons_succ, List.getElem?_cons_zero, List.length_cons, List.length_nil, List.map_cons, List.map_nil, List.replicate_succ, List.replicate_zero, List.cons_append, List.nil_append, List.append_assoc, List.append_nil, Fz.permL, List.filterMap_cons, List.filterMap_nil, Fz.wipeD, List.length_set, List.set_set, Nat.reduceAdd, Nat.reduceLT, Nat.reduceLeDiff, Nat.reduceSub, Nat.reduceEqDiff, Int.reduceAdd, Int.reduceToNat, Int.reducePow, decide_eq_true_eq, if_true, if_false, ite_true, ite_false, true_and, and_true, not_false_eq_true, not_true_eq_false, false_and, and_false, Bool.false_eq_true, Bool.true_eq_false, Bool.not_true, Bool.not_false, Fz.set_at, Fz.gc_selfS, Fz.app_at, Fz.app_at0, Fz.app_lt, Fz.gc_appI, Fz.gc_appB, Fz.gc_appS, Fz.gc_appN, Fz.cutD_map, Fz.ints_int, List.flatten_cons, List.flatten_nil, Nat.add_assoc, Fz.mapO_fr, Fz.mapO_int, Fz.nr_frs, Fz.nr_ints, Fz.py_int, Fz.py_str, Fz.py_bl, Fz.py_non, Fz.py_tup, Fz.line0, Fz.lint0, Fz.line1, Fz.lint1, Fz.line2, Fz.lint2, Fz.line3, Fz.lint3, Fz.line4, Fz.lint4, Fz.line5, Fz.lint5, Fz.line6, Fz.lint6, Fz.line7, Fz.lint7, Fz.line8, Fz.lint8, Fz.line9, Fz.lint9, Fz.line10, Fz.lint10, Fz.line11, Fz.lint11, Fz.line12, Fz.lint12, Fz.line13, Fz.lint13, Fz.line14, Fz.lint14, Fz.line15, Fz.lint15, Fz.line16, Fz.lint16, Fz.line17, Fz.lint17, Fz.line18, Fz.lint18, Fz.line19, Fz.lint19, Fz.line20, Fz.lint20, Fz.line21, Fz.lint21, Fz.line22, Fz.lint22, Fz.line23, Fz.lint23, Fz.line24, Fz.lint24, Fz.set_atk, Fz.set_at0, Fz.optC_lst, Fz.py_fr, Fz.py_refC, Fz.ty_list, Fz.ty_str, Fz.nr_fr, Fz.gc_kS, Fz.gc_kI, Fz.gc_kB, Fz.cellNo, Fz.noRef.noRefs, Fz.noRef, List.all_cons, List.all_nil, List.take_succ_cons, List.take_zero, Nat.le_refl, Nat.reduceLeDiff, Fz.mapO, Option.map_some, Fz.eqQ_some, List.cons_beq_cons, Nat.reduceBEq, Nat.reduceBNe, Bool.and_true, Bool.true_and, Bool.false_and, Bool.and_false, beq_self_eq_true, Bool.or_true, Bool.true_or, Bool.or_false, Bool.false_or, Fz.bls_map, List.length_append, hy, tr_mk]
            refine ⟨by exact Fz.Bd.ok (by repeat' (first | assumption | exact (show Fz.Bd 64 _ by decide) | apply Fz.Bd.mul | apply Fz.Bd.add' | apply Fz.Bd.sub' | apply Fz.Bd.neg)) (by repeat' (first | assumption | exact (show Fz.Bd 64 _ by decide) | apply Fz.Bd.mul | apply Fz.Bd.add' | apply Fz.Bd.sub' | apply Fz.Bd.neg)), ?_⟩
            by_cases z0 : 0 < L * w - U
            · rw [if_pos z0]
              refine ⟨by exact Fz.Bd.ok (by repeat' (first | assumption | exact (show Fz.Bd 64 _ by decide) | apply Fz.Bd.mul | apply Fz.Bd.add' | apply Fz.Bd.sub' | apply Fz.Bd.neg)) (by repeat' (first | assumption | exact (show Fz.Bd 64 _ by decide) | apply Fz.Bd.mul | apply Fz.Bd.add' | apply Fz.Bd.sub' | apply Fz.Bd.neg)), z0, ?_⟩
              by_cases z1 : (U * w) % (L * w - U) = 0
              · rw [if_pos (by rw [z1]; rfl)]
                refine ⟨by exact Fz.Bd.ok (by repeat' (first | assumption | exact (show Fz.Bd 64 _ by decide) | apply Fz.Bd.mul | apply Fz.Bd.add' | apply Fz.Bd.sub' | apply Fz.Bd.neg)) (by repeat' (first | assumption | exact (show Fz.Bd 64 _ by decide) | apply Fz.Bd.mul | apply Fz.Bd.add' | apply Fz.Bd.sub' | apply Fz.Bd.neg)), dl z0, ?_⟩
                by_cases z2 : w < U * w / (L * w - U)
                · by_cases z3 : U * w / (L * w - U) ≤ 999
                  · have eI : it L U o w = some (o, w, U * w / (L * w - U)) := by unfold it; rw [if_pos ⟨z0, z1, z2, z3⟩]
                    rw [if_pos z2, if_pos (by omega)]
                    refine ⟨by exact Fz.Bd.ok (by repeat' (first | assumption | exact (show Fz.Bd 64 _ by decide) | apply Fz.Bd.mul | apply Fz.Bd.add' | apply Fz.Bd.sub' | apply Fz.Bd.neg)) (by repeat' (first | assumption | exact (show Fz.Bd 64 _ by decide) | apply Fz.Bd.mul | apply Fz.Bd.add' | apply Fz.Bd.sub' | apply Fz.Bd.neg)), dl z0, lenok, hg.setl hle ?_, ?_, ?_, _, _, _, rfl⟩
                    · rw [show ∀ (X : List Tr) (y : Tr), X.map tr ++ [tr y] = (X ++ [y]).map tr from fun X y => by rw [List.map_append]; rfl]
                      exact nr_trs _ _
                    · rw [List.getElem?_set_ne (by omega)]; exact hx
                    · rw [set_at hVW]
                      simp only [eI, Option.toList_some, List.map_append, List.append_assoc, List.map_cons, List.map_nil]
                  · have eI : it L U o w = none := by unfold it; rw [if_neg]; rintro ⟨_, _, _, x⟩; exact z3 x
                    rw [if_pos z2, if_neg (by omega)]
                    exact ⟨hg, hx, by rw [eI, Option.toList_none, List.append_nil], _, _, _, rfl⟩
                · have eI : it L U o w = none := by unfold it; rw [if_neg]; rintro ⟨_, _, x, _⟩; exact z2 x
                  rw [if_neg z2]
                  exact ⟨hg, hx, by rw [eI, Option.toList_none, List.append_nil], _, _, _, rfl⟩
              · have eI : it L U o w = none := by unfold it; rw [if_neg]; rintro ⟨_, x, _, _⟩; exact z1 x
                rw [if_neg (by simpa using z1)]
                exact ⟨hg, hx, by rw [eI, Option.toList_none, List.append_nil], _, _, _, rfl⟩
            · have eI : it L U o w = none := by unfold it; rw [if_neg]; rintro ⟨x, _, _, _⟩; exact z0 x
              rw [if_neg z0]
              exact ⟨hg, hx, by rw [eI, Option.toList_none, List.append_nil], _, _, _, rfl⟩
          · rintro e W ⟨hg, hx, hy, xb, xc, xd, rfl⟩
            rw [intsD_len] at hy
            exact ⟨hg, hy, _, _, _, _, _, _, rfl⟩
    · rintro e T ⟨hG, hc, xa, xb, xc, xd, xf, xg, rfl⟩
      rw [intsD_len] at hc
      have eo : (((if 3 * q.2 / q.1 < 999 then 3 * q.2 / q.1 else 999) + 1 - q.2 / q.1).toNat - 1) = o1 q := by unfold o1; split <;> omega
      rw [eo] at hc
      have hc : T[V.length]? = some (.lst ((tl q).map tr)) := hc
      have okp := ok_trs pq hb
      have hl : V.length < T.length := lt_of_get hc
      have h11 : Pt (1, 1) := by unfold Pt; decide
      have e11 : tl (1, 1) = [(2, 3, 6)] := by decide
      have wT := hG.wf
      have w2 : Wf (T ++ [.lst [.tup ((tl q).map tr)], .lst [.tup ((tl q).map tr), .tup ((tl q).map tr)]]) := wT.app (by simp [cellNo, noRef, noRef.noRefs, nr_trs])
      have e1 := triples_eq h11 w2
      rw [e11] at e1
      simp -implicitDefEqProofs only [Fz.r_ok, Fz.r_stuck, Fz.r_ite, Fz.r_bind, Fz.r_fl, Fz.r_fl0, Fz.f_ite, Fz.x_nil, Fz.x_seq, Fz.x_expr, Fz.x_ret, Fz.x_retN, Fz.x_brk, Fz.x_cnt, Fz.x_stuck, Fz.x_if, Fz.x_asg, Fz.x_par2, Fz.x_par3, Fz.g_nm, Fz.g_nil, Fz.g_cons, Fz.g_tp, Fz.g_sb, Fz.g_set, Fz.e_var0, Fz.e_varS, Fz.e_c, Fz.e_1, Fz.e_2, Fz.e_n, Fz.e_gc, Fz.e_if, Fz.e_and, Fz.e_or, Fz.e_not, Fz.e_ch, Fz.e_sl, Fz.o_none, Fz.o_some, Fz.a_nil, Fz.a_cons, Fz.a_app, Fz.a_star, Fz.t_of, Fz.t_bl, Fz.t_not, Fz.t_and, Fz.t_or, Fz.t_yes, Fz.b_bl, Fz.u_bl, Fz.u_int, Fz.u_non, Fz.u_tup, Fz.u_frl, Fz.u_str, Fz.v_addI, Fz.v_addS, Fz.v_addT, Fz.v_subI, Fz.v_mulII, Fz.v_divI, Fz.v_modI, Fz.v_powI, Fz.v_shlI, Fz.v_shrI, Fz.v_negI, Fz.v_cmpI, Fz.v_tup, Fz.v_lst, Fz.v_absI, Fz.v_maxI, Fz.v_minI, Fz.v_intI, Fz.v_intB, Fz.v_gcdI, Fz.v_dmI, Fz.v_lenS, Fz.v_lenT, Fz.v_lenF, Fz.v_lenR, Fz.v_ixT, Fz.v_ixF, Fz.v_ixR, Fz.v_ixS, Fz.v_slT, Fz.v_slF, Fz.v_slR, Fz.v_slS, Fz.v_revS, Fz.v_eqS, Fz.v_neS, Fz.v_eqI, Fz.v_neI, Fz.v_eqT, Fz.v_neT, Fz.v_eqR, Fz.v_neR, Fz.v_inC, Fz.v_ninC, Fz.x_for, Fz.i_of, Fz.i_arg, Fz.s_tup, Fz.s_frl, Fz.s_str, Fz.s_ref, Fz.s_r1, Fz.s_r2, Fz.e_lc, Fz.r_nox, Fz.v_allR, Fz.v_anyR, Fz.v_sumR, Fz.i_int, Fz.s_starT, Fz.v_isiS, Fz.v_isiSI, Fz.v_isiI, Fz.v_isiIB, Fz.v_isiIS, Fz.v_isiIT, Fz.v_isiIL, Fz.v_isiT, Fz.v_isiTI, Fz.v_isiTL, Fz.v_eqF, Fz.v_neF, Fz.v_ixf0, Fz.v_ixf1, Fz.v_isif, Fz.v_lenf, Fz.v_reprP, Fz.e_m, Fz.v_appR, Fz.v_isB, Fz.v_isNN, Fz.v_isNI, Fz.v_isNT, Fz.v_isNF, Fz.v_isNR, Fz.v_notNN, Fz.v_notNI, Fz.v_notNT, Fz.v_notNF, Fz.v_notNR, Fz.v_tupleR, Fz.v_tupleT, Fz.v_tupleF, Fz.v_listR, Fz.v_listT, Fz.v_sumAT, Fz.v_sumAR, Fz.v_mulAI, Fz.v_mulAR, Fz.v_andI, Fz.s_r3, Fz.v_revR, Fz.g_tpf, Fz.v_eqB, Fz.v_neB, Fz.v_eqTI, Fz.g_tlR, Fz.v_joinR, Fz.v_mulAC, Fz.v_lr, Fz.c_F, Fz.d_F, Fz.if_false', Fz.if_true', Fz.cellQ_lst, Fz.optQ_some, Fz.atI_0, Fz.atI_1, Fz.atI_n, Fz.ixN_0, Fz.ixN_1, Fz.ixN_n, List.set_cons_succ, List.set_cons_zero, List.getElem?_cons_succ, List.getElem?_cons_zero, List.length_cons, List.length_nil, List.map_cons, List.map_nil, List.replicate_succ, List.replicate_zero, List.cons_append, List.nil_append, List.append_assoc, List.append_nil, Fz.permL, List.filterMap_cons, List.filterMap_nil, Fz.wipeD, List.length_set, List.set_set, Nat.reduceAdd, Nat.reduceLT, Nat.reduceLeDiff, Nat.reduceSub, Nat.reduceEqDiff, Int.reduceAdd, Int.reduceToNat, Int.reducePow, decide_eq_true_eq, if_true, if_false, ite_true, ite_false, true_and, and_true, not_false_eq_true, not_true_eq_false, false_and, and_false, Bool.false_eq_true, Bool.true_eq_false, Bool.not_true, Bool.not_false, Fz.set_at, Fz.gc_selfS, Fz.app_at, Fz.app_at0, Fz.app_lt, Fz.gc_appI, Fz.gc_appB, Fz.gc_appS, Fz.gc_appN, Fz.cutD_map, Fz.ints_int, List.flatten_cons, List.flatten_nil, Nat.add_assoc, Fz.mapO_fr, Fz.mapO_int, Fz.nr_frs, Fz.nr_ints, Fz.py_int, Fz.py_str, Fz.py_bl, Fz.py_non, Fz.py_tup, Fz.line0, Fz.lint0, Fz.line1, Fz.lint1, Fz.line2, Fz.lint2, Fz.line3, Fz.lint3, Fz.line4, Fz.lint4, Fz.line5, Fz.lint5, Fz.line6, Fz.lint6, Fz.line7, Fz.lint7, Fz.line8, Fz.lint8, Fz.line9, Fz.lint9, Fz.line10, Fz.lint10, Fz.line11, Fz.lint11, Fz.line12, Fz.lint12, Fz.line13, Fz.lint13, Fz.line14, Fz.lint14, Fz.line15, Fz.lint15, Fz.line16, Fz.lint16, Fz.line17, Fz.lint17, Fz.line18, Fz.lint18, Fz.line19, Fz.lint19, Fz.line20, Fz.lint20, Fz.line21, Fz.lint21, Fz.line22, Fz.lint22, Fz.line23, Fz.lint23, Fz.line24, Fz.lint24, Fz.set_atk, Fz.set_at0, Fz.optC_lst, Fz.py_fr, Fz.py_refC, Fz.ty_list, Fz.ty_str, Fz.nr_fr, Fz.gc_kS, Fz.gc_kI, Fz.gc_kB, Fz.cellNo, Fz.noRef.noRefs, Fz.noRef, List.all_cons, List.all_nil, List.take_succ_cons, List.take_zero, Nat.le_refl, Nat.reduceLeDiff, Fz.mapO, Option.map_some, Fz.eqQ_some, List.cons_beq_cons, Nat.reduceBEq, Nat.reduceBNe, Bool.and_true, Bool.true_and, Bool.false_and, Bool.and_false, beq_self_eq_true, Bool.or_true, Bool.true_or, Bool.or_false, Bool.false_or, Fz.bls_map, List.length_append, triples_eq pq hG.wf, mapO_tr, hc, fr_mk, e1, okp, wT, tr]
      have s236 : SeqAt.shaped (.tuple [.tuple [.int 2, .int 3, .int 6]]) = true := by simp [SeqAt.shaped, PyData.canLay0, PyData.canLayAll0, PyData.depth, PyData.depthAll]
      exact ⟨⟨by decide, by decide, Nat.le_of_ble_eq_true rfl⟩, ⟨s236, s236⟩, (hG.add (l := [.lst [.tup ((tl q).map tr)], .lst [.tup ((tl q).map tr), .tup ((tl q).map tr)]]) (by simp [cellNo, noRef, noRef.noRefs, nr_trs])).gc rfl fun U hU => ⟨by simp [PyData.eqv, PyData.eqvAll], hU⟩⟩
theorem law_ok : ∀ ns : List Int, ns.length ≤ 63 → F_law [.frl (ns.map D.int)] [] = .ok (.bl true) [] := by
  intro ns hns
  refine sat_eq ?_
  unfold F_law b_law
  simp -implicitDefEqProofs only [Fz.r_ok, Fz.r_stuck, Fz.r_ite, Fz.r_bind, Fz.r_fl, Fz.r_fl0, Fz.f_ite, Fz.x_nil, Fz.x_seq, Fz.x_expr, Fz.x_ret, Fz.x_retN, Fz.x_brk, Fz.x_cnt, Fz.x_stuck, Fz.x_if, Fz.x_asg, Fz.x_par2, Fz.x_par3, Fz.g_nm, Fz.g_nil, Fz.g_cons, Fz.g_tp, Fz.g_sb, Fz.g_set, Fz.e_var0, Fz.e_varS, Fz.e_c, Fz.e_1, Fz.e_2, Fz.e_n, Fz.e_gc, Fz.e_if, Fz.e_and, Fz.e_or, Fz.e_not, Fz.e_ch, Fz.e_sl, Fz.o_none, Fz.o_some, Fz.a_nil, Fz.a_cons, Fz.a_app, Fz.a_star, Fz.t_of, Fz.t_bl, Fz.t_not, Fz.t_and, Fz.t_or, Fz.t_yes, Fz.b_bl, Fz.u_bl, Fz.u_int, Fz.u_non, Fz.u_tup, Fz.u_frl, Fz.u_str, Fz.v_addI, Fz.v_addS, Fz.v_addT, Fz.v_subI, Fz.v_mulII, Fz.v_divI, Fz.v_modI, Fz.v_powI, Fz.v_shlI, Fz.v_shrI, Fz.v_negI, Fz.v_cmpI, Fz.v_tup, Fz.v_lst, Fz.v_absI, Fz.v_maxI, Fz.v_minI, Fz.v_intI, Fz.v_intB, Fz.v_gcdI, Fz.v_dmI, Fz.v_lenS, Fz.v_lenT, Fz.v_lenF, Fz.v_lenR, Fz.v_ixT, Fz.v_ixF, Fz.v_ixR, Fz.v_ixS, Fz.v_slT, Fz.v_slF, Fz.v_slR, Fz.v_slS, Fz.v_revS, Fz.v_eqS, Fz.v_neS, Fz.v_eqI, Fz.v_neI, Fz.v_eqT, Fz.v_neT, Fz.v_eqR, Fz.v_neR, Fz.v_inC, Fz.v_ninC, Fz.x_for, Fz.i_of, Fz.i_arg, Fz.s_tup, Fz.s_frl, Fz.s_str, Fz.s_ref, Fz.s_r1, Fz.s_r2, Fz.e_lc, Fz.r_nox, Fz.v_allR, Fz.v_anyR, Fz.v_sumR, Fz.i_int, Fz.s_starT, Fz.v_isiS, Fz.v_isiSI, Fz.v_isiI, Fz.v_isiIB, Fz.v_isiIS, Fz.v_isiIT, Fz.v_isiIL, Fz.v_isiT, Fz.v_isiTI, Fz.v_isiTL, Fz.v_eqF, Fz.v_neF, Fz.v_ixf0, Fz.v_ixf1, Fz.v_isif, Fz.v_lenf, Fz.v_reprP, Fz.e_m, Fz.v_appR, Fz.v_isB, Fz.v_isNN, Fz.v_isNI, Fz.v_isNT, Fz.v_isNF, Fz.v_isNR, Fz.v_notNN, Fz.v_notNI, Fz.v_notNT, Fz.v_notNF, Fz.v_notNR, Fz.v_tupleR, Fz.v_tupleT, Fz.v_tupleF, Fz.v_listR, Fz.v_listT, Fz.v_sumAT, Fz.v_sumAR, Fz.v_mulAI, Fz.v_mulAR, Fz.v_andI, Fz.s_r3, Fz.v_revR, Fz.g_tpf, Fz.v_eqB, Fz.v_neB, Fz.v_eqTI, Fz.g_tlR, Fz.v_joinR, Fz.v_mulAC, Fz.v_lr, Fz.c_F, Fz.d_F, Fz.if_false', Fz.if_true', Fz.cellQ_lst, Fz.optQ_some, Fz.atI_0, Fz.atI_1, Fz.atI_n, Fz.ixN_0, Fz.ixN_1, Fz.ixN_n, List.set_cons_succ, List.set_cons_zero, List.getElem?_cons_succ, List.getElem?_cons_zero, List.length_cons, List.length_nil, List.map_cons, List.map_nil, List.replicate_succ, List.replicate_zero, List.cons_append, List.nil_append, List.append_assoc, List.append_nil, Fz.permL, List.filterMap_cons, List.filterMap_nil, Fz.wipeD, List.length_set, List.set_set, Nat.reduceAdd, Nat.reduceLT, Nat.reduceLeDiff, Nat.reduceSub, Nat.reduceEqDiff, Int.reduceAdd, Int.reduceToNat, Int.reducePow, decide_eq_true_eq, if_true, if_false, ite_true, ite_false, true_and, and_true, not_false_eq_true, not_true_eq_false, false_and, and_false, Bool.false_eq_true, Bool.true_eq_false, Bool.not_true, Bool.not_false, Fz.set_at, Fz.gc_selfS, Fz.app_at, Fz.app_at0, Fz.app_lt, Fz.gc_appI, Fz.gc_appB, Fz.gc_appS, Fz.gc_appN, Fz.cutD_map, Fz.ints_int, List.flatten_cons, List.flatten_nil, Nat.add_assoc, Fz.mapO_fr, Fz.mapO_int, Fz.nr_frs, Fz.nr_ints, Fz.py_int, Fz.py_str, Fz.py_bl, Fz.py_non, Fz.py_tup, Fz.line0, Fz.lint0, Fz.line1, Fz.lint1, Fz.line2, Fz.lint2, Fz.line3, Fz.lint3, Fz.line4, Fz.lint4, Fz.line5, Fz.lint5, Fz.line6, Fz.lint6, Fz.line7, Fz.lint7, Fz.line8, Fz.lint8, Fz.line9, Fz.lint9, Fz.line10, Fz.lint10, Fz.line11, Fz.lint11, Fz.line12, Fz.lint12, Fz.line13, Fz.lint13, Fz.line14, Fz.lint14, Fz.line15, Fz.lint15, Fz.line16, Fz.lint16, Fz.line17, Fz.lint17, Fz.line18, Fz.lint18, Fz.line19, Fz.lint19, Fz.line20, Fz.lint20, Fz.line21, Fz.lint21, Fz.line22, Fz.lint22, Fz.line23, Fz.lint23, Fz.line24, Fz.lint24, Fz.set_atk, Fz.set_at0, Fz.optC_lst, Fz.py_fr, Fz.py_refC, Fz.ty_list, Fz.ty_str, Fz.nr_fr, Fz.gc_kS, Fz.gc_kI, Fz.gc_kB, Fz.cellNo, Fz.noRef.noRefs, Fz.noRef, List.all_cons, List.all_nil, List.take_succ_cons, List.take_zero, Nat.le_refl, Nat.reduceLeDiff, Fz.mapO, Option.map_some, Fz.eqQ_some, List.cons_beq_cons, Nat.reduceBEq, Nat.reduceBNe, Bool.and_true, Bool.true_and, Bool.false_and, Bool.and_false, beq_self_eq_true, Bool.or_true, Bool.true_or, Bool.or_false, Bool.false_or, Fz.bls_map, List.length_append]
  refine ⟨by simp [B62]; omega, ?_⟩
  refine for_seq (fun i e T => Wf T ∧ ∃ x y z, e = [some (.frl (ns.map D.int)), x, y, z]) ⟨rfl, _, _, _, rfl⟩ ?_ ?_
  · rintro i d e T hd ⟨hw, x, y, z, rfl⟩
    obtain ⟨hi, rfl⟩ := intsD_get hd
    simp -implicitDefEqProofs only [Fz.r_ok, Fz.r_stuck, Fz.r_ite, Fz.r_bind, Fz.r_fl, Fz.r_fl0, Fz.f_ite, Fz.x_nil, Fz.x_seq, Fz.x_expr, Fz.x_ret, Fz.x_retN, Fz.x_brk, Fz.x_cnt, Fz.x_stuck, Fz.x_if, Fz.x_asg, Fz.x_par2, Fz.x_par3, Fz.g_nm, Fz.g_nil, Fz.g_cons, Fz.g_tp, Fz.g_sb, Fz.g_set, Fz.e_var0, Fz.e_varS, Fz.e_c, Fz.e_1, Fz.e_2, Fz.e_n, Fz.e_gc, Fz.e_if, Fz.e_and, Fz.e_or, Fz.e_not, Fz.e_ch, Fz.e_sl, Fz.o_none, Fz.o_some, Fz.a_nil, Fz.a_cons, Fz.a_app, Fz.a_star, Fz.t_of, Fz.t_bl, Fz.t_not, Fz.t_and, Fz.t_or, Fz.t_yes, Fz.b_bl, Fz.u_bl, Fz.u_int, Fz.u_non, Fz.u_tup, Fz.u_frl, Fz.u_str, Fz.v_addI, Fz.v_addS, Fz.v_addT, Fz.v_subI, Fz.v_mulII, Fz.v_divI, Fz.v_modI, Fz.v_powI, Fz.v_shlI, Fz.v_shrI, Fz.v_negI, Fz.v_cmpI, Fz.v_tup, Fz.v_lst, Fz.v_absI, Fz.v_maxI, Fz.v_minI, Fz.v_intI, Fz.v_intB, Fz.v_gcdI, Fz.v_dmI, Fz.v_lenS, Fz.v_lenT, Fz.v_lenF, Fz.v_lenR, Fz.v_ixT, Fz.v_ixF, Fz.v_ixR, Fz.v_ixS, Fz.v_slT, Fz.v_slF, Fz.v_slR, Fz.v_slS, Fz.v_revS, Fz.v_eqS, Fz.v_neS, Fz.v_eqI, Fz.v_neI, Fz.v_eqT, Fz.v_neT, Fz.v_eqR, Fz.v_neR, Fz.v_inC, Fz.v_ninC, Fz.x_for, Fz.i_of, Fz.i_arg, Fz.s_tup, Fz.s_frl, Fz.s_str, Fz.s_ref, Fz.s_r1, Fz.s_r2, Fz.e_lc, Fz.r_nox, Fz.v_allR, Fz.v_anyR, Fz.v_sumR, Fz.i_int, Fz.s_starT, Fz.v_isiS, Fz.v_isiSI, Fz.v_isiI, Fz.v_isiIB, Fz.v_isiIS, Fz.v_isiIT, Fz.v_isiIL, Fz.v_isiT, Fz.v_isiTI, Fz.v_isiTL, Fz.v_eqF, Fz.v_neF, Fz.v_ixf0, Fz.v_ixf1, Fz.v_isif, Fz.v_lenf, Fz.v_reprP, Fz.e_m, Fz.v_appR, Fz.v_isB, Fz.v_isNN, Fz.v_isNI, Fz.v_isNT, Fz.v_isNF, Fz.v_isNR, Fz.v_notNN, Fz.v_notNI, Fz.v_notNT, Fz.v_notNF, Fz.v_notNR, Fz.v_tupleR, Fz.v_tupleT, Fz.v_tupleF, Fz.v_listR, Fz.v_listT, Fz.v_sumAT, Fz.v_sumAR, Fz.v_mulAI, Fz.v_mulAR, Fz.v_andI, Fz.s_r3, Fz.v_revR, Fz.g_tpf, Fz.v_eqB, Fz.v_neB, Fz.v_eqTI, Fz.g_tlR, Fz.v_joinR, Fz.v_mulAC, Fz.v_lr, Fz.c_F, Fz.d_F, Fz.if_false', Fz.if_true', Fz.cellQ_lst, Fz.optQ_some, Fz.atI_0, Fz.atI_1, Fz.atI_n, Fz.ixN_0, Fz.ixN_1, Fz.ixN_n, List.set_cons_succ, List.set_cons_zero, List.getElem?_cons_succ, List.getElem?_cons_zero, List.length_cons, List.length_nil, List.map_cons, List.map_nil, List.replicate_succ, List.replicate_zero, List.cons_append, List.nil_append, List.append_assoc, List.append_nil, Fz.permL, List.filterMap_cons, List.filterMap_nil, Fz.wipeD, List.length_set, List.set_set, Nat.reduceAdd, Nat.reduceLT, Nat.reduceLeDiff, Nat.reduceSub, Nat.reduceEqDiff, Int.reduceAdd, Int.reduceToNat, Int.reducePow, decide_eq_true_eq, if_true, if_false, ite_true, ite_false, true_and, and_true, not_false_eq_true, not_true_eq_false, false_and, and_false, Bool.false_eq_true, Bool.true_eq_false, Bool.not_true, Bool.not_false, Fz.set_at, Fz.gc_selfS, Fz.app_at, Fz.app_at0, Fz.app_lt, Fz.gc_appI, Fz.gc_appB, Fz.gc_appS, Fz.gc_appN, Fz.cutD_map, Fz.ints_int, List.flatten_cons, List.flatten_nil, Nat.add_assoc, Fz.mapO_fr, Fz.mapO_int, Fz.nr_frs, Fz.nr_ints, Fz.py_int, Fz.py_str, Fz.py_bl, Fz.py_non, Fz.py_tup, Fz.line0, Fz.lint0, Fz.line1, Fz.lint1, Fz.line2, Fz.lint2, Fz.line3, Fz.lint3, Fz.line4, Fz.lint4, Fz.line5, Fz.lint5, Fz.line6, Fz.lint6, Fz.line7, Fz.lint7, Fz.line8, Fz.lint8, Fz.line9, Fz.lint9, Fz.line10, Fz.lint10, Fz.line11, Fz.lint11, Fz.line12, Fz.lint12, Fz.line13, Fz.lint13, Fz.line14, Fz.lint14, Fz.line15, Fz.lint15, Fz.line16, Fz.lint16, Fz.line17, Fz.lint17, Fz.line18, Fz.lint18, Fz.line19, Fz.lint19, Fz.line20, Fz.lint20, Fz.line21, Fz.lint21, Fz.line22, Fz.lint22, Fz.line23, Fz.lint23, Fz.line24, Fz.lint24, Fz.set_atk, Fz.set_at0, Fz.optC_lst, Fz.py_fr, Fz.py_refC, Fz.ty_list, Fz.ty_str, Fz.nr_fr, Fz.gc_kS, Fz.gc_kI, Fz.gc_kB, Fz.cellNo, Fz.noRef.noRefs, Fz.noRef, List.all_cons, List.all_nil, List.take_succ_cons, List.take_zero, Nat.le_refl, Nat.reduceLeDiff, Fz.mapO, Option.map_some, Fz.eqQ_some, List.cons_beq_cons, Nat.reduceBEq, Nat.reduceBNe, Bool.and_true, Bool.true_and, Bool.false_and, Bool.and_false, beq_self_eq_true, Bool.or_true, Bool.true_or, Bool.or_false, Bool.false_or, Fz.bls_map, List.length_append]
    refine sat_mono (pool_spec hw) ?_
    rintro _ U ⟨rfl, a, b, c, rfl⟩
    simp -implicitDefEqProofs only [Fz.r_ok, Fz.r_stuck, Fz.r_ite, Fz.r_bind, Fz.r_fl, Fz.r_fl0, Fz.f_ite, Fz.x_nil, Fz.x_seq, Fz.x_expr, Fz.x_ret, Fz.x_retN, Fz.x_brk, Fz.x_cnt, Fz.x_stuck, Fz.x_if, Fz.x_asg, Fz.x_par2, Fz.x_par3, Fz.g_nm, Fz.g_nil, Fz.g_cons, Fz.g_tp, Fz.g_sb, Fz.g_set, Fz.e_var0, Fz.e_varS, Fz.e_c, Fz.e_1, Fz.e_2, Fz.e_n, Fz.e_gc, Fz.e_if, Fz.e_and, Fz.e_or, Fz.e_not, Fz.e_ch, Fz.e_sl, Fz.o_none, Fz.o_some, Fz.a_nil, Fz.a_cons, Fz.a_app, Fz.a_star, Fz.t_of, Fz.t_bl, Fz.t_not, Fz.t_and, Fz.t_or, Fz.t_yes, Fz.b_bl, Fz.u_bl, Fz.u_int, Fz.u_non, Fz.u_tup, Fz.u_frl, Fz.u_str, Fz.v_addI, Fz.v_addS, Fz.v_addT, Fz.v_subI, Fz.v_mulII, Fz.v_divI, Fz.v_modI, Fz.v_powI, Fz.v_shlI, Fz.v_shrI, Fz.v_negI, Fz.v_cmpI, Fz.v_tup, Fz.v_lst, Fz.v_absI, Fz.v_maxI, Fz.v_minI, Fz.v_intI, Fz.v_intB, Fz.v_gcdI, Fz.v_dmI, Fz.v_lenS, Fz.v_lenT, Fz.v_lenF, Fz.v_lenR, Fz.v_ixT, Fz.v_ixF, Fz.v_ixR, Fz.v_ixS, Fz.v_slT, Fz.v_slF, Fz.v_slR, Fz.v_slS, Fz.v_revS, Fz.v_eqS, Fz.v_neS, Fz.v_eqI, Fz.v_neI, Fz.v_eqT, Fz.v_neT, Fz.v_eqR, Fz.v_neR, Fz.v_inC, Fz.v_ninC, Fz.x_for, Fz.i_of, Fz.i_arg, Fz.s_tup, Fz.s_frl, Fz.s_str, Fz.s_ref, Fz.s_r1, Fz.s_r2, Fz.e_lc, Fz.r_nox, Fz.v_allR, Fz.v_anyR, Fz.v_sumR, Fz.i_int, Fz.s_starT, Fz.v_isiS, Fz.v_isiSI, Fz.v_isiI, Fz.v_isiIB, Fz.v_isiIS, Fz.v_isiIT, Fz.v_isiIL, Fz.v_isiT, Fz.v_isiTI, Fz.v_isiTL, Fz.v_eqF, Fz.v_neF, Fz.v_ixf0, Fz.v_ixf1, Fz.v_isif, Fz.v_lenf, Fz.v_reprP, Fz.e_m, Fz.v_appR, Fz.v_isB, Fz.v_isNN, Fz.v_isNI, Fz.v_isNT, Fz.v_isNF, Fz.v_isNR, Fz.v_notNN, Fz.v_notNI, Fz.v_notNT, Fz.v_notNF, Fz.v_notNR, Fz.v_tupleR, Fz.v_tupleT, Fz.v_tupleF, Fz.v_listR, Fz.v_listT, Fz.v_sumAT, Fz.v_sumAR, Fz.v_mulAI, Fz.v_mulAR, Fz.v_andI, Fz.s_r3, Fz.v_revR, Fz.g_tpf, Fz.v_eqB, Fz.v_neB, Fz.v_eqTI, Fz.g_tlR, Fz.v_joinR, Fz.v_mulAC, Fz.v_lr, Fz.c_F, Fz.d_F, Fz.if_false', Fz.if_true', Fz.cellQ_lst, Fz.optQ_some, Fz.atI_0, Fz.atI_1, Fz.atI_n, Fz.ixN_0, Fz.ixN_1, Fz.ixN_n, List.set_cons_succ, List.set_cons_zero, List.getElem?_cons_succ, List.getElem?_cons_zero, List.length_cons, List.length_nil, List.map_cons, List.map_nil, List.replicate_succ, List.replicate_zero, List.cons_append, List.nil_append, List.append_assoc, List.append_nil, Fz.permL, List.filterMap_cons, List.filterMap_nil, Fz.wipeD, List.length_set, List.set_set, Nat.reduceAdd, Nat.reduceLT, Nat.reduceLeDiff, Nat.reduceSub, Nat.reduceEqDiff, Int.reduceAdd, Int.reduceToNat, Int.reducePow, decide_eq_true_eq, if_true, if_false, ite_true, ite_false, true_and, and_true, not_false_eq_true, not_true_eq_false, false_and, and_false, Bool.false_eq_true, Bool.true_eq_false, Bool.not_true, Bool.not_false, Fz.set_at, Fz.gc_selfS, Fz.app_at, Fz.app_at0, Fz.app_lt, Fz.gc_appI, Fz.gc_appB, Fz.gc_appS, Fz.gc_appN, Fz.cutD_map, Fz.ints_int, List.flatten_cons, List.flatten_nil, Nat.add_assoc, Fz.mapO_fr, Fz.mapO_int, Fz.nr_frs, Fz.nr_ints, Fz.py_int, Fz.py_str, Fz.py_bl, Fz.py_non, Fz.py_tup, Fz.line0, Fz.lint0, Fz.line1, Fz.lint1, Fz.line2, Fz.lint2, Fz.line3, Fz.lint3, Fz.line4, Fz.lint4, Fz.line5, Fz.lint5, Fz.line6, Fz.lint6, Fz.line7, Fz.lint7, Fz.line8, Fz.lint8, Fz.line9, Fz.lint9, Fz.line10, Fz.lint10, Fz.line11, Fz.lint11, Fz.line12, Fz.lint12, Fz.line13, Fz.lint13, Fz.line14, Fz.lint14, Fz.line15, Fz.lint15, Fz.line16, Fz.lint16, Fz.line17, Fz.lint17, Fz.line18, Fz.lint18, Fz.line19, Fz.lint19, Fz.line20, Fz.lint20, Fz.line21, Fz.lint21, Fz.line22, Fz.lint22, Fz.line23, Fz.lint23, Fz.line24, Fz.lint24, Fz.set_atk, Fz.set_at0, Fz.optC_lst, Fz.py_fr, Fz.py_refC, Fz.ty_list, Fz.ty_str, Fz.nr_fr, Fz.gc_kS, Fz.gc_kI, Fz.gc_kB, Fz.cellNo, Fz.noRef.noRefs, Fz.noRef, List.all_cons, List.all_nil, List.take_succ_cons, List.take_zero, Nat.le_refl, Nat.reduceLeDiff, Fz.mapO, Option.map_some, Fz.eqQ_some, List.cons_beq_cons, Nat.reduceBEq, Nat.reduceBNe, Bool.and_true, Bool.true_and, Bool.false_and, Bool.and_false, beq_self_eq_true, Bool.or_true, Bool.true_or, Bool.or_false, Bool.false_or, Fz.bls_map, List.length_append]
    have w2 : Wf (T ++ [.lst [.int a, .int b, .int c], .lst [.int 9, .int 30, .int 99, .int 12]]) := hw.app rfl
    have p2 : Pl (T ++ [.lst [.int a, .int b, .int c], .lst [.int 9, .int 30, .int 99, .int 12]]) T.length := ⟨a, b, c, app_at0 _ _⟩
    have c2 : (T ++ [.lst [.int a, .int b, .int c], .lst [.int 9, .int 30, .int 99, .int 12]])[T.length + 1]? = some (.lst [.int 9, .int 30, .int 99, .int 12]) := app_at _ _ 1
    generalize (T ++ [.lst [.int a, .int b, .int c], .lst [.int 9, .int 30, .int 99, .int 12]]) = V at w2 p2 c2 ⊢
    refine for_cell (ds := [.int 9, .int 30, .int 99, .int 12]) rfl (fun i e U => Pg V T.length U ∧ ∃ x y, e = [some (.frl (ns.map D.int)), x, some (.ref T.length), y]) ?_ ⟨.self p2 w2, _, _, rfl⟩ ?_ ?_
    · rintro i e U ⟨hg, -⟩
      exact hg.at_ (by omega) c2
    · rintro i d e U hd ⟨hg, x, y, rfl⟩
      have hm : ∃ m : Int, d = .int m ∧ 3 ≤ m ∧ m ≤ 1000 ∧ d ∈ [.int 9, .int 30, .int 99, .int 12] := by
        have h := List.mem_of_getElem? hd
        have h2 := h
        simp only [List.mem_cons, List.not_mem_nil, or_false] at h2
        rcases h2 with rfl | rfl | rfl | rfl <;> exact ⟨_, rfl, by decide, by decide, h⟩
      obtain ⟨m, rfl, m0, m1, mm⟩ := hm
      simp -implicitDefEqProofs only [Fz.r_ok, Fz.r_stuck, Fz.r_ite, Fz.r_bind, Fz.r_fl, Fz.r_fl0, Fz.f_ite, Fz.x_nil, Fz.x_seq, Fz.x_expr, Fz.x_ret, Fz.x_retN, Fz.x_brk, Fz.x_cnt, Fz.x_stuck, Fz.x_if, Fz.x_asg, Fz.x_par2, Fz.x_par3, Fz.g_nm, Fz.g_nil, Fz.g_cons, Fz.g_tp, Fz.g_sb, Fz.g_set, Fz.e_var0, Fz.e_varS, Fz.e_c, Fz.e_1, Fz.e_2, Fz.e_n, Fz.e_gc, Fz.e_if, Fz.e_and, Fz.e_or, Fz.e_not, Fz.e_ch, Fz.e_sl, Fz.o_none, Fz.o_some, Fz.a_nil, Fz.a_cons, Fz.a_app, Fz.a_star, Fz.t_of, Fz.t_bl, Fz.t_not, Fz.t_and, Fz.t_or, Fz.t_yes, Fz.b_bl, Fz.u_bl, Fz.u_int, Fz.u_non, Fz.u_tup, Fz.u_frl, Fz.u_str, Fz.v_addI, Fz.v_addS, Fz.v_addT, Fz.v_subI, Fz.v_mulII, Fz.v_divI, Fz.v_modI, Fz.v_powI, Fz.v_shlI, Fz.v_shrI, Fz.v_negI, Fz.v_cmpI, Fz.v_tup, Fz.v_lst, Fz.v_absI, Fz.v_maxI, Fz.v_minI, Fz.v_intI, Fz.v_intB, Fz.v_gcdI, Fz.v_dmI, Fz.v_lenS, Fz.v_lenT, Fz.v_lenF, Fz.v_lenR, Fz.v_ixT, Fz.v_ixF, Fz.v_ixR, Fz.v_ixS, Fz.v_slT, Fz.v_slF, Fz.v_slR, Fz.v_slS, Fz.v_revS, Fz.v_eqS, Fz.v_neS, Fz.v_eqI, Fz.v_neI, Fz.v_eqT, Fz.v_neT, Fz.v_eqR, Fz.v_neR, Fz.v_inC, Fz.v_ninC, Fz.x_for, Fz.i_of, Fz.i_arg, Fz.s_tup, Fz.s_frl, Fz.s_str, Fz.s_ref, Fz.s_r1, Fz.s_r2, Fz.e_lc, Fz.r_nox, Fz.v_allR, Fz.v_anyR, Fz.v_sumR, Fz.i_int, Fz.s_starT, Fz.v_isiS, Fz.v_isiSI, Fz.v_isiI, Fz.v_isiIB, Fz.v_isiIS, Fz.v_isiIT, Fz.v_isiIL, Fz.v_isiT, Fz.v_isiTI, Fz.v_isiTL, Fz.v_eqF, Fz.v_neF, Fz.v_ixf0, Fz.v_ixf1, Fz.v_isif, Fz.v_lenf, Fz.v_reprP, Fz.e_m, Fz.v_appR, Fz.v_isB, Fz.v_isNN, Fz.v_isNI, Fz.v_isNT, Fz.v_isNF, Fz.v_isNR, Fz.v_notNN, Fz.v_notNI, Fz.v_notNT, Fz.v_notNF, Fz.v_notNR, Fz.v_tupleR, Fz.v_tupleT, Fz.v_tupleF, Fz.v_listR, Fz.v_listT, Fz.v_sumAT, Fz.v_sumAR, Fz.v_mulAI, Fz.v_mulAR, Fz.v_andI, Fz.s_r3, Fz.v_revR, Fz.g_tpf, Fz.v_eqB, Fz.v_neB, Fz.v_eqTI, Fz.g_tlR, Fz.v_joinR, Fz.v_mulAC, Fz.v_lr, Fz.c_F, Fz.d_F, Fz.if_false', Fz.if_true', Fz.cellQ_lst, Fz.optQ_some, Fz.atI_0, Fz.atI_1, Fz.atI_n, Fz.ixN_0, Fz.ixN_1, Fz.ixN_n, List.set_cons_succ, List.set_cons_zero, List.getElem?_cons_succ, List.getElem?_cons_zero, List.length_cons, List.length_nil, List.map_cons, List.map_nil, List.replicate_succ, List.replicate_zero, List.cons_append, List.nil_append, List.append_assoc, List.append_nil, Fz.permL, List.filterMap_cons, List.filterMap_nil, Fz.wipeD, List.length_set, List.set_set, Nat.reduceAdd, Nat.reduceLT, Nat.reduceLeDiff, Nat.reduceSub, Nat.reduceEqDiff, Int.reduceAdd, Int.reduceToNat, Int.reducePow, decide_eq_true_eq, if_true, if_false, ite_true, ite_false, true_and, and_true, not_false_eq_true, not_true_eq_false, false_and, and_false, Bool.false_eq_true, Bool.true_eq_false, Bool.not_true, Bool.not_false, Fz.set_at, Fz.gc_selfS, Fz.app_at, Fz.app_at0, Fz.app_lt, Fz.gc_appI, Fz.gc_appB, Fz.gc_appS, Fz.gc_appN, Fz.cutD_map, Fz.ints_int, List.flatten_cons, List.flatten_nil, Nat.add_assoc, Fz.mapO_fr, Fz.mapO_int, Fz.nr_frs, Fz.nr_ints, Fz.py_int, Fz.py_str, Fz.py_bl, Fz.py_non, Fz.py_tup, Fz.line0, Fz.lint0, Fz.line1, Fz.lint1, Fz.line2, Fz.lint2, Fz.line3, Fz.lint3, Fz.line4, Fz.lint4, Fz.line5, Fz.lint5, Fz.line6, Fz.lint6, Fz.line7, Fz.lint7, Fz.line8, Fz.lint8, Fz.line9, Fz.lint9, Fz.line10, Fz.lint10, Fz.line11, Fz.lint11, Fz.line12, Fz.lint12, Fz.line13, Fz.lint13, Fz.line14, Fz.lint14, Fz.line15, Fz.lint15, Fz.line16, Fz.lint16, Fz.line17, Fz.lint17, Fz.line18, Fz.lint18, Fz.line19, Fz.lint19, Fz.line20, Fz.lint20, Fz.line21, Fz.lint21, Fz.line22, Fz.lint22, Fz.line23, Fz.lint23, Fz.line24, Fz.lint24, Fz.set_atk, Fz.set_at0, Fz.optC_lst, Fz.py_fr, Fz.py_refC, Fz.ty_list, Fz.ty_str, Fz.nr_fr, Fz.gc_kS, Fz.gc_kI, Fz.gc_kB, Fz.cellNo, Fz.noRef.noRefs, Fz.noRef, List.all_cons, List.all_nil, List.take_succ_cons, List.take_zero, Nat.le_refl, Nat.reduceLeDiff, Fz.mapO, Option.map_some, Fz.eqQ_some, List.cons_beq_cons, Nat.reduceBEq, Nat.reduceBNe, Bool.and_true, Bool.true_and, Bool.false_and, Bool.and_false, beq_self_eq_true, Bool.or_true, Bool.true_or, Bool.or_false, Bool.false_or, Fz.bls_map, List.length_append]
      refine sat_mono (right_spec hg.pl hg.wf m0 m1 mm) ?_
      rintro _ W ⟨rfl, hW⟩
      simp -implicitDefEqProofs only [Fz.r_ok, Fz.r_stuck, Fz.r_ite, Fz.r_bind, Fz.r_fl, Fz.r_fl0, Fz.f_ite, Fz.x_nil, Fz.x_seq, Fz.x_expr, Fz.x_ret, Fz.x_retN, Fz.x_brk, Fz.x_cnt, Fz.x_stuck, Fz.x_if, Fz.x_asg, Fz.x_par2, Fz.x_par3, Fz.g_nm, Fz.g_nil, Fz.g_cons, Fz.g_tp, Fz.g_sb, Fz.g_set, Fz.e_var0, Fz.e_varS, Fz.e_c, Fz.e_1, Fz.e_2, Fz.e_n, Fz.e_gc, Fz.e_if, Fz.e_and, Fz.e_or, Fz.e_not, Fz.e_ch, Fz.e_sl, Fz.o_none, Fz.o_some, Fz.a_nil, Fz.a_cons, Fz.a_app, Fz.a_star, Fz.t_of, Fz.t_bl, Fz.t_not, Fz.t_and, Fz.t_or, Fz.t_yes, Fz.b_bl, Fz.u_bl, Fz.u_int, Fz.u_non, Fz.u_tup, Fz.u_frl, Fz.u_str, Fz.v_addI, Fz.v_addS, Fz.v_addT, Fz.v_subI, Fz.v_mulII, Fz.v_divI, Fz.v_modI, Fz.v_powI, Fz.v_shlI, Fz.v_shrI, Fz.v_negI, Fz.v_cmpI, Fz.v_tup, Fz.v_lst, Fz.v_absI, Fz.v_maxI, Fz.v_minI, Fz.v_intI, Fz.v_intB, Fz.v_gcdI, Fz.v_dmI, Fz.v_lenS, Fz.v_lenT, Fz.v_lenF, Fz.v_lenR, Fz.v_ixT, Fz.v_ixF, Fz.v_ixR, Fz.v_ixS, Fz.v_slT, Fz.v_slF, Fz.v_slR, Fz.v_slS, Fz.v_revS, Fz.v_eqS, Fz.v_neS, Fz.v_eqI, Fz.v_neI, Fz.v_eqT, Fz.v_neT, Fz.v_eqR, Fz.v_neR, Fz.v_inC, Fz.v_ninC, Fz.x_for, Fz.i_of, Fz.i_arg, Fz.s_tup, Fz.s_frl, Fz.s_str, Fz.s_ref, Fz.s_r1, Fz.s_r2, Fz.e_lc, Fz.r_nox, Fz.v_allR, Fz.v_anyR, Fz.v_sumR, Fz.i_int, Fz.s_starT, Fz.v_isiS, Fz.v_isiSI, Fz.v_isiI, Fz.v_isiIB, Fz.v_isiIS, Fz.v_isiIT, Fz.v_isiIL, Fz.v_isiT, Fz.v_isiTI, Fz.v_isiTL, Fz.v_eqF, Fz.v_neF, Fz.v_ixf0, Fz.v_ixf1, Fz.v_isif, Fz.v_lenf, Fz.v_reprP, Fz.e_m, Fz.v_appR, Fz.v_isB, Fz.v_isNN, Fz.v_isNI, Fz.v_isNT, Fz.v_isNF, Fz.v_isNR, Fz.v_notNN, Fz.v_notNI, Fz.v_notNT, Fz.v_notNF, Fz.v_notNR, Fz.v_tupleR, Fz.v_tupleT, Fz.v_tupleF, Fz.v_listR, Fz.v_listT, Fz.v_sumAT, Fz.v_sumAR, Fz.v_mulAI, Fz.v_mulAR, Fz.v_andI, Fz.s_r3, Fz.v_revR, Fz.g_tpf, Fz.v_eqB, Fz.v_neB, Fz.v_eqTI, Fz.g_tlR, Fz.v_joinR, Fz.v_mulAC, Fz.v_lr, Fz.c_F, Fz.d_F, Fz.if_false', Fz.if_true', Fz.cellQ_lst, Fz.optQ_some, Fz.atI_0, Fz.atI_1, Fz.atI_n, Fz.ixN_0, Fz.ixN_1, Fz.ixN_n, List.set_cons_succ, List.set_cons_zero, List.getElem?_cons_succ, List.getElem?_cons_zero, List.length_cons, List.length_nil, List.map_cons, List.map_nil, List.replicate_succ, List.replicate_zero, List.cons_append, List.nil_append, List.append_assoc, List.append_nil, Fz.permL, List.filterMap_cons, List.filterMap_nil, Fz.wipeD, List.length_set, List.set_set, Nat.reduceAdd, Nat.reduceLT, Nat.reduceLeDiff, Nat.reduceSub, Nat.reduceEqDiff, Int.reduceAdd, Int.reduceToNat, Int.reducePow, decide_eq_true_eq, if_true, if_false, ite_true, ite_false, true_and, and_true, not_false_eq_true, not_true_eq_false, false_and, and_false, Bool.false_eq_true, Bool.true_eq_false, Bool.not_true, Bool.not_false, Fz.set_at, Fz.gc_selfS, Fz.app_at, Fz.app_at0, Fz.app_lt, Fz.gc_appI, Fz.gc_appB, Fz.gc_appS, Fz.gc_appN, Fz.cutD_map, Fz.ints_int, List.flatten_cons, List.flatten_nil, Nat.add_assoc, Fz.mapO_fr, Fz.mapO_int, Fz.nr_frs, Fz.nr_ints, Fz.py_int, Fz.py_str, Fz.py_bl, Fz.py_non, Fz.py_tup, Fz.line0, Fz.lint0, Fz.line1, Fz.lint1, Fz.line2, Fz.lint2, Fz.line3, Fz.lint3, Fz.line4, Fz.lint4, Fz.line5, Fz.lint5, Fz.line6, Fz.lint6, Fz.line7, Fz.lint7, Fz.line8, Fz.lint8, Fz.line9, Fz.lint9, Fz.line10, Fz.lint10, Fz.line11, Fz.lint11, Fz.line12, Fz.lint12, Fz.line13, Fz.lint13, Fz.line14, Fz.lint14, Fz.line15, Fz.lint15, Fz.line16, Fz.lint16, Fz.line17, Fz.lint17, Fz.line18, Fz.lint18, Fz.line19, Fz.lint19, Fz.line20, Fz.lint20, Fz.line21, Fz.lint21, Fz.line22, Fz.lint22, Fz.line23, Fz.lint23, Fz.line24, Fz.lint24, Fz.set_atk, Fz.set_at0, Fz.optC_lst, Fz.py_fr, Fz.py_refC, Fz.ty_list, Fz.ty_str, Fz.nr_fr, Fz.gc_kS, Fz.gc_kI, Fz.gc_kB, Fz.cellNo, Fz.noRef.noRefs, Fz.noRef, List.all_cons, List.all_nil, List.take_succ_cons, List.take_zero, Nat.le_refl, Nat.reduceLeDiff, Fz.mapO, Option.map_some, Fz.eqQ_some, List.cons_beq_cons, Nat.reduceBEq, Nat.reduceBNe, Bool.and_true, Bool.true_and, Bool.false_and, Bool.and_false, beq_self_eq_true, Bool.or_true, Bool.true_or, Bool.or_false, Bool.false_or, Fz.bls_map, List.length_append]
      exact ⟨hg.pn hW, _, _, rfl⟩
    · rintro e U ⟨hg, x, y, rfl⟩
      exact ⟨hg.wf, _, _, _, rfl⟩
  · rintro e T ⟨hw, x, y, z, rfl⟩
    exact gc_end rfl ⟨rfl, rfl⟩
end Lw

namespace Lw
open PySem PySem.Spec PyProof.Rows L2 Fz
def topS (i : Nat) : Stmt := PySem.Challenge.pw_fractiontrees_k45_triples.main.body.getD i (.Pass ⟨0, 0, 0, 0⟩)
/-! ### what the top has written -/
structure Tx (K : PySem.W.Frag) (mg : Str → Option Value) : Prop where
  n_abs : mg "abs" = none
  n_bool : mg "bool" = none
  n_divmod : mg "divmod" = none
  n_int : mg "int" = none
  n_isinstance : mg "isinstance" = none
  n_len : mg "len" = none
  n_list : mg "list" = none
  n_max : mg "max" = none
  n_min : mg "min" = none
  n_range : mg "range" = none
  n_repr : mg "repr" = none
  n_sum : mg "sum" = none
  n_tuple : mg "tuple" = none
  i_gcd : mg "gcd" = some (.builtin "math.gcd")
  k_MOST_NUMBER : KD ⟨K, mg⟩ "MOST_NUMBER" k_MOST_NUMBER
  k_MOST_TRIPLE : KD ⟨K, mg⟩ "MOST_TRIPLE" k_MOST_TRIPLE
  a_is_whole : At K mg "is_whole" "is_whole" (topS 5) []
  a_is_tuple_of : At K mg "is_tuple_of" "is_tuple_of" (topS 7) []
  a_lowest : At K mg "lowest" "lowest" (topS 8) []
  a__law_pool : At K mg "_law_pool" "_law_pool" (topS 21) []
  a__law_take : At K mg "_law_take" "_law_take" (topS 22) []
  a__law_frac : At K mg "_law_frac" "_law_frac" (topS 24) []
  a_is_between : At K mg "is_between" "is_between" (topS 6) []
  a_less_by : At K mg "less_by" "less_by" (topS 9) []
  a__law_small : At K mg "_law_small" "_law_small" (topS 25) []
  a_is_given : At K mg "is_given" "is_given" (topS 12) []
  a_triples_by : At K mg "triples_by" "triples_by" (topS 17) []
  a_is_above : At K mg "is_above" "is_above" (topS 13) []
  a_is_part : At K mg "is_part" "is_part" (topS 16) []
  a_check_part : At K mg "check_part" "check_part" (topS 18) []
  a_triples : At K mg "triples" "triples" (topS 19) []
  a__law_right : At K mg "_law_right" "_law_right" (topS 26) []
  a_law : At K mg "law" "law" (topS 27) []
section
variable {P : Program} {w : World} {K : PySem.W.Frag} {mg : Str → Option Value} {base : Heap}
theorem sc_is_whole : FnScope ["value"] ["value"] (defScope (topS 5)) := ⟨rfl, rfl, rfl, by decide +kernel, rfl, by decide +kernel, by decide +kernel⟩
theorem has_is_whole (T : Tx K mg)  : Has P w K mg base 1 "is_whole" "is_whole" (topS 5) [] ["value"] F_is_whole := by
  refine has_of (k := 0) T.a_is_whole sc_is_whole fun f cdv A outer s H E gd hr => ?_
  have nd := sc_is_whole.nd
  have hu := hr.units
  have tk := takes_of (X := cxOf (L2.CX P w) P w K mg base ["value"] "is_whole" (defScope (topS 5)) f cdv A outer s H E) rfl rfl rfl rfl
  have hp := passes_of (X := cxOf (L2.CX P w) P w K mg base ["value"] "is_whole" (defScope (topS 5)) f cdv A outer s H E) rfl
  exact (fss_one (fs_ret (fe_and (fe_isi T.n_isinstance T.n_int PyProof.Rows.boot_int (fe_var 0)) (fe_one (fe_not (fe_isi T.n_isinstance T.n_bool PyProof.Rows.boot_bool (fe_var 0)))))))
theorem sc_is_tuple_of : FnScope ["value", "many"] ["value", "many"] (defScope (topS 7)) := ⟨rfl, rfl, rfl, by decide +kernel, rfl, by decide +kernel, by decide +kernel⟩
theorem has_is_tuple_of (T : Tx K mg)  : Has P w K mg base 1 "is_tuple_of" "is_tuple_of" (topS 7) [] ["value", "many"] F_is_tuple_of := by
  refine has_of (k := 0) T.a_is_tuple_of sc_is_tuple_of fun f cdv A outer s H E gd hr => ?_
  have nd := sc_is_tuple_of.nd
  have hu := hr.units
  have tk := takes_of (X := cxOf (L2.CX P w) P w K mg base ["value", "many"] "is_tuple_of" (defScope (topS 7)) f cdv A outer s H E) rfl rfl rfl rfl
  have hp := passes_of (X := cxOf (L2.CX P w) P w K mg base ["value", "many"] "is_tuple_of" (defScope (topS 7)) f cdv A outer s H E) rfl
  exact (fss_one (fs_ret (fe_and (fe_isi T.n_isinstance T.n_tuple PyProof.Rows.boot_tuple (fe_var 0)) (fe_one (fe_cmp (op_eqAll hu) vb_eq.v2 (fe_callB call_len v_len T.n_len PySem.boot_len (fa_cons (fe_var 0) fa_nil)) (fe_var 1) (nomark _))))))
theorem sc_lowest : FnScope ["over", "under", "common"] ["over", "under"] (defScope (topS 8)) := ⟨rfl, rfl, rfl, by decide +kernel, rfl, by decide +kernel, by decide +kernel⟩
theorem has_lowest (T : Tx K mg)  : Has P w K mg base 1 "lowest" "lowest" (topS 8) [] ["over", "under"] F_lowest := by
  refine has_of (k := 0) T.a_lowest sc_lowest fun f cdv A outer s H E gd hr => ?_
  have nd := sc_lowest.nd
  have hu := hr.units
  have tk := takes_of (X := cxOf (L2.CX P w) P w K mg base ["over", "under", "common"] "lowest" (defScope (topS 8)) f cdv A outer s H E) rfl rfl rfl rfl
  have hp := passes_of (X := cxOf (L2.CX P w) P w K mg base ["over", "under", "common"] "lowest" (defScope (topS 8)) f cdv A outer s H E) rfl
  exact (fss_cons (fs_asg (ws := [2]) (fe_if (ft_cmp op_gt (vb_cmp _).v2 (fe_var 1) fe_int (nomark _)) (fe_callF cr_gcd v_gcd T.i_gcd (fa_cons (fe_var 0) (fa_cons (fe_var 1) fa_nil))) (fe_un un_neg v_neg (fe_callF cr_gcd v_gcd T.i_gcd (fa_cons (fe_var 0) (fa_cons (fe_var 1) fa_nil))))) (fg_name (ws := [2]) (i := 2) nd))
    (fss_one (fs_ret (fe_tup (fa_cons (fe_op op_divB v_div (fe_var 0) (fe_var 2)) (fa_cons (fe_op op_divB v_div (fe_var 1) (fe_var 2)) fa_nil))))))
theorem sc__law_pool : FnScope ["script", "k", "wide", "each", "cell", "mixed"] ["script", "k"] (defScope (topS 21)) := ⟨rfl, rfl, rfl, by decide +kernel, rfl, by decide +kernel, by decide +kernel⟩
theorem has__law_pool (T : Tx K mg)  : Has P w K mg base 1 "_law_pool" "_law_pool" (topS 21) [] ["script", "k"] F__law_pool := by
  refine has_of (k := 0) T.a__law_pool sc__law_pool fun f cdv A outer s H E gd hr => ?_
  have nd := sc__law_pool.nd
  have hu := hr.units
  have tk := takes_of (X := cxOf (L2.CX P w) P w K mg base ["script", "k", "wide", "each", "cell", "mixed"] "_law_pool" (defScope (topS 21)) f cdv A outer s H E) rfl rfl rfl rfl
  have hp := passes_of (X := cxOf (L2.CX P w) P w K mg base ["script", "k", "wide", "each", "cell", "mixed"] "_law_pool" (defScope (topS 21)) f cdv A outer s H E) rfl
  exact (fss_cons (fs_par (i := 4) (j := 5) rfl nd rfl rfl (fa_cons (fe_gc (fe_callB (cr_sum rfl) v_sum T.n_sum PyProof.Rows.boot_sum (fa_cons (fe_sl (fe_var 0) (fo_some (fe_var 1)) (fo_some (fe_op op_addAll v_add (fe_var 1) fe_int))) fa_nil))) (fa_cons (fe_op op_addAll v_add fe_int (fe_op op_mulB v_mulI fe_int (fe_var 1))) fa_nil)))
    (fss_cons (fs_asg (ws := [2]) (fe_op op_mulB v_mulI (fe_op op_mulB v_mulI (fe_op op_mulB v_mulI (fe_op op_mulB v_mulI (fe_op op_mulB v_mulI (fe_op op_pow v_pow fe_int fe_int) (fe_op op_pow v_pow fe_int fe_int)) (fe_op op_pow v_pow fe_int fe_int)) (fe_op op_pow v_pow fe_int fe_int)) (fe_op op_pow v_pow fe_int fe_int)) (fe_op op_pow v_pow fe_int fe_int)) (fg_name (ws := [2]) (i := 2) nd))
    (fss_cons (fs_for hp rfl (fi_of (fe_sl (fe_var 0) fo_none (fo_some fe_int))) (fg_name (ws := [3]) (i := 3) nd) (fss_one (fs_asg (ws := [5]) (fe_op op_mod v_mod (fe_op op_addAll v_add (fe_op op_addAll v_add (fe_op op_mulB v_mulI (fe_var 5) fe_int) (fe_op op_mulB v_mulI (fe_op op_mod v_mod (fe_var 3) fe_int) fe_int)) fe_int) fe_int) (fg_name (ws := [5]) (i := 5) nd))))
    (fss_one (fs_ret (fe_lst (fa_cons (fe_if (FW.ft (fw_or (ft_cmp op_lt (vb_cmp _).v2 (fe_var 4) fe_int (nomark _)) (fw_or1 (ft_cmp op_ge (vb_cmp _).v2 (fe_var 4) (fe_op op_pow v_pow fe_int fe_int) (nomark _))))) (fe_op op_mod v_mod (fe_callB call_abs v_abs T.n_abs PyProof.Rows.boot_abs (fa_cons (fe_var 4) fa_nil)) (fe_var 2)) fe_int) (fa_cons (fe_var 5) (fa_cons fe_int fa_nil)))))))))
theorem sc__law_take : FnScope ["pool", "many", "stirred", "digit"] ["pool", "many"] (defScope (topS 22)) := ⟨rfl, rfl, rfl, by decide +kernel, rfl, by decide +kernel, by decide +kernel⟩
theorem has__law_take (T : Tx K mg)  : Has P w K mg base 1 "_law_take" "_law_take" (topS 22) [] ["pool", "many"] F__law_take := by
  refine has_of (k := 0) T.a__law_take sc__law_take fun f cdv A outer s H E gd hr => ?_
  have nd := sc__law_take.nd
  have hu := hr.units
  have tk := takes_of (X := cxOf (L2.CX P w) P w K mg base ["pool", "many", "stirred", "digit"] "_law_take" (defScope (topS 22)) f cdv A outer s H E) rfl rfl rfl rfl
  have hp := passes_of (X := cxOf (L2.CX P w) P w K mg base ["pool", "many", "stirred", "digit"] "_law_take" (defScope (topS 22)) f cdv A outer s H E) rfl
  exact (fss_cons (fs_if (ft_cmp op_gt (vb_cmp _).v2 (fe_ix ix_seq v_ix (fe_var 0) fe_int (fun _ _ => rfl)) fe_int (nomark _)) (fss_cons (fs_asg (ws := [3]) (fe_callB call_divmod v_divmod T.n_divmod PyProof.Rows.boot_divmod (fa_cons (fe_ix ix_seq v_ix (fe_var 0) fe_int (fun _ _ => rfl)) (fa_cons (fe_var 1) fa_nil))) (fg_tup rfl (fgs_cons (fg_sub (W := fun c d _ H' => E c d H') (fe_var 0) fe_int) (fgs_cons (fg_name (ws := [3]) (i := 3) nd) fgs_nil))))
    (fss_one (fs_ret (fe_var 3)))) fss_nil)
    (fss_cons (fs_asg (ws := []) (fe_op op_addAll v_add (fe_ix ix_seq v_ix (fe_var 0) fe_int (fun _ _ => rfl)) fe_int) (fg_sub (W := fun c d _ H' => E c d H') (fe_var 0) fe_int))
    (fss_cons (fs_asg (ws := [2]) (fe_op op_mod v_mod (fe_op op_addAll v_add (fe_ix ix_seq v_ix (fe_var 0) fe_int (fun _ _ => rfl)) (fe_op op_mulB v_mulI fe_int (fe_ix ix_seq v_ix (fe_var 0) fe_int (fun _ _ => rfl)))) fe_int) (fg_name (ws := [2]) (i := 2) nd))
    (fss_cons (fs_asg (ws := []) (fe_op op_mod v_mod (fe_op op_addAll v_add (fe_op op_mulB v_mulI (fe_var 2) (fe_op op_addAll v_add (fe_op op_mod v_mod (fe_var 2) fe_int) fe_int)) (fe_op op_mulB v_mulI fe_int (fe_ix ix_seq v_ix (fe_var 0) fe_int (fun _ _ => rfl)))) fe_int) (fg_sub (W := fun c d _ H' => E c d H') (fe_var 0) fe_int))
    (fss_one (fs_ret (fe_op op_mod v_mod (fe_op op_divB v_div (fe_ix ix_seq v_ix (fe_var 0) fe_int (fun _ _ => rfl)) fe_int) (fe_var 1))))))))
theorem sc__law_frac : FnScope ["top", "low", "one", "two"] ["top", "low"] (defScope (topS 24)) := ⟨rfl, rfl, rfl, by decide +kernel, rfl, by decide +kernel, by decide +kernel⟩
theorem has__law_frac (T : Tx K mg)  : Has P w K mg base 1 "_law_frac" "_law_frac" (topS 24) [] ["top", "low"] F__law_frac := by
  refine has_of (k := 0) T.a__law_frac sc__law_frac fun f cdv A outer s H E gd hr => ?_
  have nd := sc__law_frac.nd
  have hu := hr.units
  have tk := takes_of (X := cxOf (L2.CX P w) P w K mg base ["top", "low", "one", "two"] "_law_frac" (defScope (topS 24)) f cdv A outer s H E) rfl rfl rfl rfl
  have hp := passes_of (X := cxOf (L2.CX P w) P w K mg base ["top", "low", "one", "two"] "_law_frac" (defScope (topS 24)) f cdv A outer s H E) rfl
  exact (fss_cons (fs_par (i := 2) (j := 3) rfl nd rfl rfl (fa_cons (fe_callB call_abs v_abs T.n_abs PyProof.Rows.boot_abs (fa_cons (fe_var 0) fa_nil)) (fa_cons (fe_var 1) fa_nil)))
    (fss_cons (fs_while hp (ft_cmp op_gt (vb_cmp _).v2 (fe_var 3) fe_int (nomark _)) (fss_one (fs_par (i := 2) (j := 3) rfl nd rfl rfl (fa_cons (fe_var 3) (fa_cons (fe_op op_mod v_mod (fe_var 2) (fe_var 3)) fa_nil)))))
    (fss_one (fs_ret (fe_tup (fa_cons (fe_op op_divB v_div (fe_var 0) (fe_var 2)) (fa_cons (fe_op op_divB v_div (fe_var 1) (fe_var 2)) fa_nil)))))))
theorem sc_is_between : FnScope ["value", "least", "most"] ["value", "least", "most"] (defScope (topS 6)) := ⟨rfl, rfl, rfl, by decide +kernel, rfl, by decide +kernel, by decide +kernel⟩
theorem has_is_between (T : Tx K mg) (h_is_whole : Has P w K mg base 1 "is_whole" "is_whole" (topS 5) [] ["value"] F_is_whole) : Has P w K mg base 2 "is_between" "is_between" (topS 6) [] ["value", "least", "most"] F_is_between := by
  refine has_of (k := 1) T.a_is_between sc_is_between fun f cdv A outer s H E gd hr => ?_
  have nd := sc_is_between.nd
  have hu := hr.units
  have tk := takes_of (X := cxOf (L2.CX P w) P w K mg base ["value", "least", "most"] "is_between" (defScope (topS 6)) f cdv A outer s H E) rfl rfl rfl rfl
  have hp := passes_of (X := cxOf (L2.CX P w) P w K mg base ["value", "least", "most"] "is_between" (defScope (topS 6)) f cdv A outer s H E) rfl
  exact (fss_one (fs_ret (fe_and (fe_fn (n := 1) (ps := ["value"]) (pm := [0]) h_is_whole gd (hr.mono (show 1 ≤ 1 from by decide)) tk (fun _ _ _ _ _ _ us ws hu hw => match us, ws, hu, hw with | [_], [], _, _ => rfl) (fa_cons (fe_var 0) fa_nil)) (fe_one (fe_chain op_le op_le (vb_cmp _) (vb_cmp _) (fe_var 1) (fe_var 0) (fe_var 2))))))
theorem sc_less_by : FnScope ["one", "other"] ["one", "other"] (defScope (topS 9)) := ⟨rfl, rfl, rfl, by decide +kernel, rfl, by decide +kernel, by decide +kernel⟩
theorem has_less_by (T : Tx K mg) (h_lowest : Has P w K mg base 1 "lowest" "lowest" (topS 8) [] ["over", "under"] F_lowest) : Has P w K mg base 2 "less_by" "less_by" (topS 9) [] ["one", "other"] F_less_by := by
  refine has_of (k := 1) T.a_less_by sc_less_by fun f cdv A outer s H E gd hr => ?_
  have nd := sc_less_by.nd
  have hu := hr.units
  have tk := takes_of (X := cxOf (L2.CX P w) P w K mg base ["one", "other"] "less_by" (defScope (topS 9)) f cdv A outer s H E) rfl rfl rfl rfl
  have hp := passes_of (X := cxOf (L2.CX P w) P w K mg base ["one", "other"] "less_by" (defScope (topS 9)) f cdv A outer s H E) rfl
  exact (fss_one (fs_ret (fe_fn (n := 2) (ps := ["over", "under"]) (pm := [0, 1]) h_lowest gd (hr.mono (show 1 ≤ 1 from by decide)) tk (fun _ _ _ _ _ _ us ws hu hw => match us, ws, hu, hw with | [_, _], [], _, _ => rfl) (fa_cons (fe_op op_sub v_sub (fe_op op_mulB v_mulI (fe_ix ix_seq v_ix (fe_var 0) fe_int (fun _ _ => rfl)) (fe_ix ix_seq v_ix (fe_var 1) fe_int (fun _ _ => rfl))) (fe_op op_mulB v_mulI (fe_ix ix_seq v_ix (fe_var 1) fe_int (fun _ _ => rfl)) (fe_ix ix_seq v_ix (fe_var 0) fe_int (fun _ _ => rfl)))) (fa_cons (fe_op op_mulB v_mulI (fe_ix ix_seq v_ix (fe_var 0) fe_int (fun _ _ => rfl)) (fe_ix ix_seq v_ix (fe_var 1) fe_int (fun _ _ => rfl))) fa_nil)))))
theorem sc__law_small : FnScope ["pool", "most", "low"] ["pool", "most"] (defScope (topS 25)) := ⟨rfl, rfl, rfl, by decide +kernel, rfl, by decide +kernel, by decide +kernel⟩
theorem has__law_small (T : Tx K mg) (h__law_take : Has P w K mg base 1 "_law_take" "_law_take" (topS 22) [] ["pool", "many"] F__law_take) (h__law_frac : Has P w K mg base 1 "_law_frac" "_law_frac" (topS 24) [] ["top", "low"] F__law_frac) : Has P w K mg base 2 "_law_small" "_law_small" (topS 25) [] ["pool", "most"] F__law_small := by
  refine has_of (k := 1) T.a__law_small sc__law_small fun f cdv A outer s H E gd hr => ?_
  have nd := sc__law_small.nd
  have hu := hr.units
  have tk := takes_of (X := cxOf (L2.CX P w) P w K mg base ["pool", "most", "low"] "_law_small" (defScope (topS 25)) f cdv A outer s H E) rfl rfl rfl rfl
  have hp := passes_of (X := cxOf (L2.CX P w) P w K mg base ["pool", "most", "low"] "_law_small" (defScope (topS 25)) f cdv A outer s H E) rfl
  exact (fss_cons (fs_asg (ws := [2]) (fe_op op_addAll v_add fe_int (fe_fn (n := 2) (ps := ["pool", "many"]) (pm := [0, 1]) h__law_take gd (hr.mono (show 1 ≤ 1 from by decide)) tk (fun _ _ _ _ _ _ us ws hu hw => match us, ws, hu, hw with | [_, _], [], _, _ => rfl) (fa_cons (fe_var 0) (fa_cons (fe_var 1) fa_nil)))) (fg_name (ws := [2]) (i := 2) nd))
    (fss_one (fs_ret (fe_fn (n := 2) (ps := ["top", "low"]) (pm := [0, 1]) h__law_frac gd (hr.mono (show 1 ≤ 1 from by decide)) tk (fun _ _ _ _ _ _ us ws hu hw => match us, ws, hu, hw with | [_, _], [], _, _ => rfl) (fa_cons (fe_op op_addAll v_add fe_int (fe_fn (n := 2) (ps := ["pool", "many"]) (pm := [0, 1]) h__law_take gd (hr.mono (show 1 ≤ 1 from by decide)) tk (fun _ _ _ _ _ _ us ws hu hw => match us, ws, hu, hw with | [_, _], [], _, _ => rfl) (fa_cons (fe_var 0) (fa_cons (fe_var 2) fa_nil)))) (fa_cons (fe_var 2) fa_nil))))))
theorem sc_is_given : FnScope ["value"] ["value"] (defScope (topS 12)) := ⟨rfl, rfl, rfl, by decide +kernel, rfl, by decide +kernel, by decide +kernel⟩
theorem has_is_given (T : Tx K mg) (h_is_between : Has P w K mg base 2 "is_between" "is_between" (topS 6) [] ["value", "least", "most"] F_is_between) (h_is_tuple_of : Has P w K mg base 1 "is_tuple_of" "is_tuple_of" (topS 7) [] ["value", "many"] F_is_tuple_of) : Has P w K mg base 3 "is_given" "is_given" (topS 12) [] ["value"] F_is_given := by
  refine has_of (k := 2) T.a_is_given sc_is_given fun f cdv A outer s H E gd hr => ?_
  have nd := sc_is_given.nd
  have hu := hr.units
  have tk := takes_of (X := cxOf (L2.CX P w) P w K mg base ["value"] "is_given" (defScope (topS 12)) f cdv A outer s H E) rfl rfl rfl rfl
  have hp := passes_of (X := cxOf (L2.CX P w) P w K mg base ["value"] "is_given" (defScope (topS 12)) f cdv A outer s H E) rfl
  exact (fss_cons (fs_if (FW.ft (fw_or (ft_not (ft_tru (fe_fn (n := 2) (ps := ["value", "many"]) (pm := [0, 1]) h_is_tuple_of gd (hr.mono (show 1 ≤ 2 from by decide)) tk (fun _ _ _ _ _ _ us ws hu hw => match us, ws, hu, hw with | [_, _], [], _, _ => rfl) (fa_cons (fe_var 0) (fa_cons fe_int fa_nil))))) (fw_or1 (ft_not (ft_tru (fe_fn (n := 3) (ps := ["value", "least", "most"]) (pm := [0, 1, 2]) h_is_between gd (hr.mono (show 2 ≤ 2 from by decide)) tk (fun _ _ _ _ _ _ us ws hu hw => match us, ws, hu, hw with | [_, _, _], [], _, _ => rfl) (fa_cons (fe_ix ix_seq v_ix (fe_var 0) fe_int (fun _ _ => rfl)) (fa_cons fe_int (fa_cons (fe_kd T.k_MOST_NUMBER) fa_nil))))))))) (fss_one (fs_ret fe_bl)) fss_nil)
    (fss_one (fs_ret (fe_and (fe_fn (n := 3) (ps := ["value", "least", "most"]) (pm := [0, 1, 2]) h_is_between gd (hr.mono (show 2 ≤ 2 from by decide)) tk (fun _ _ _ _ _ _ us ws hu hw => match us, ws, hu, hw with | [_, _, _], [], _, _ => rfl) (fa_cons (fe_ix ix_seq v_ix (fe_var 0) fe_int (fun _ _ => rfl)) (fa_cons fe_int (fa_cons (fe_kd T.k_MOST_NUMBER) fa_nil)))) (fe_one (fe_cmp (op_eqAll hu) vb_eq.v2 (fe_callF cr_gcd v_gcd T.i_gcd (fa_cons (fe_ix ix_seq v_ix (fe_var 0) fe_int (fun _ _ => rfl)) (fa_cons (fe_ix ix_seq v_ix (fe_var 0) fe_int (fun _ _ => rfl)) fa_nil))) fe_int (nomark _)))))))
theorem sc_triples_by : FnScope ["fraction", "found", "one", "left", "two", "over", "under"] ["fraction"] (defScope (topS 17)) := ⟨rfl, rfl, rfl, by decide +kernel, rfl, by decide +kernel, by decide +kernel⟩
theorem has_triples_by (T : Tx K mg) (h_less_by : Has P w K mg base 2 "less_by" "less_by" (topS 9) [] ["one", "other"] F_less_by) : Has P w K mg base 3 "triples_by" "triples_by" (topS 17) [] ["fraction"] F_triples_by := by
  refine has_of (k := 2) T.a_triples_by sc_triples_by fun f cdv A outer s H E gd hr => ?_
  have nd := sc_triples_by.nd
  have hu := hr.units
  have tk := takes_of (X := cxOf (L2.CX P w) P w K mg base ["fraction", "found", "one", "left", "two", "over", "under"] "triples_by" (defScope (topS 17)) f cdv A outer s H E) rfl rfl rfl rfl
  have hp := passes_of (X := cxOf (L2.CX P w) P w K mg base ["fraction", "found", "one", "left", "two", "over", "under"] "triples_by" (defScope (topS 17)) f cdv A outer s H E) rfl
  exact (fss_cons (fs_asg (ws := [1]) (fe_lst fa_nil) (fg_name (ws := [1]) (i := 1) nd))
    (fss_cons (fs_for hp rfl (fi_range2 T.n_range (fa_cons (fe_op op_addAll v_add (fe_op op_divB v_div (fe_ix ix_seq v_ix (fe_var 0) fe_int (fun _ _ => rfl)) (fe_ix ix_seq v_ix (fe_var 0) fe_int (fun _ _ => rfl))) fe_int) (fa_cons (fe_op op_addAll v_add (fe_callB (call_min2 rfl) v_min2 T.n_min PyProof.Rows.boot_min (fa_cons (fe_kd T.k_MOST_TRIPLE) (fa_cons (fe_op op_divB v_div (fe_op op_mulB v_mulI fe_int (fe_ix ix_seq v_ix (fe_var 0) fe_int (fun _ _ => rfl))) (fe_ix ix_seq v_ix (fe_var 0) fe_int (fun _ _ => rfl))) fa_nil))) fe_int) fa_nil))) (fg_name (ws := [2]) (i := 2) nd) (fss_cons (fs_asg (ws := [3]) (fe_fn (n := 2) (ps := ["one", "other"]) (pm := [0, 1]) h_less_by gd (hr.mono (show 2 ≤ 2 from by decide)) tk (fun _ _ _ _ _ _ us ws hu hw => match us, ws, hu, hw with | [_, _], [], _, _ => rfl) (fa_cons (fe_var 0) (fa_cons (fe_tup (fa_cons fe_int (fa_cons (fe_var 2) fa_nil))) fa_nil))) (fg_name (ws := [3]) (i := 3) nd))
    (fss_one (fs_for hp rfl (fi_range2 T.n_range (fa_cons (fe_op op_addAll v_add (fe_callB (call_max2 rfl) v_max2 T.n_max PyProof.Rows.boot_max (fa_cons (fe_var 2) (fa_cons (fe_op op_divB v_div (fe_ix ix_seq v_ix (fe_var 3) fe_int (fun _ _ => rfl)) (fe_ix ix_seq v_ix (fe_var 3) fe_int (fun _ _ => rfl))) fa_nil))) fe_int) (fa_cons (fe_op op_addAll v_add (fe_callB (call_min2 rfl) v_min2 T.n_min PyProof.Rows.boot_min (fa_cons (fe_kd T.k_MOST_TRIPLE) (fa_cons (fe_op op_divB v_div (fe_op op_mulB v_mulI fe_int (fe_ix ix_seq v_ix (fe_var 3) fe_int (fun _ _ => rfl))) (fe_ix ix_seq v_ix (fe_var 3) fe_int (fun _ _ => rfl))) fa_nil))) fe_int) fa_nil))) (fg_name (ws := [4]) (i := 4) nd) (fss_cons (fs_par (i := 5) (j := 6) rfl nd rfl rfl (fa_cons (fe_op op_sub v_sub (fe_op op_mulB v_mulI (fe_ix ix_seq v_ix (fe_var 3) fe_int (fun _ _ => rfl)) (fe_var 4)) (fe_ix ix_seq v_ix (fe_var 3) fe_int (fun _ _ => rfl))) (fa_cons (fe_op op_mulB v_mulI (fe_ix ix_seq v_ix (fe_var 3) fe_int (fun _ _ => rfl)) (fe_var 4)) fa_nil)))
    (fss_one (fs_if (FW.ft (fw_and (ft_cmp (op_eqAll hu) vb_eq.v2 (fe_op op_mod v_mod (fe_var 6) (fe_var 5)) fe_int (nomark _)) (fw_and1 (ft_chain op_lt op_le (vb_cmp _) (vb_cmp _) (fe_var 4) (fe_op op_divB v_div (fe_var 6) (fe_var 5)) (fe_kd T.k_MOST_TRIPLE))))) (fss_one (fs_expr (fe_append (fe_var 1) (fa_cons (fe_tup (fa_cons (fe_var 2) (fa_cons (fe_var 4) (fa_cons (fe_op op_divB v_div (fe_var 6) (fe_var 5)) fa_nil)))) fa_nil)))) fss_nil)))))))
    (fss_one (fs_ret (fe_callTy call_tuple_of v_tuple T.n_tuple PyProof.Rows.boot_tuple (fa_cons (fe_var 1) fa_nil))))))
theorem sc_is_above : FnScope ["value"] ["value"] (defScope (topS 13)) := ⟨rfl, rfl, rfl, by decide +kernel, rfl, by decide +kernel, by decide +kernel⟩
theorem has_is_above (T : Tx K mg) (h_is_given : Has P w K mg base 3 "is_given" "is_given" (topS 12) [] ["value"] F_is_given) : Has P w K mg base 4 "is_above" "is_above" (topS 13) [] ["value"] F_is_above := by
  refine has_of (k := 3) T.a_is_above sc_is_above fun f cdv A outer s H E gd hr => ?_
  have nd := sc_is_above.nd
  have hu := hr.units
  have tk := takes_of (X := cxOf (L2.CX P w) P w K mg base ["value"] "is_above" (defScope (topS 13)) f cdv A outer s H E) rfl rfl rfl rfl
  have hp := passes_of (X := cxOf (L2.CX P w) P w K mg base ["value"] "is_above" (defScope (topS 13)) f cdv A outer s H E) rfl
  exact (fss_one (fs_ret (fe_and (fe_fn (n := 1) (ps := ["value"]) (pm := [0]) h_is_given gd (hr.mono (show 3 ≤ 3 from by decide)) tk (fun _ _ _ _ _ _ us ws hu hw => match us, ws, hu, hw with | [_], [], _, _ => rfl) (fa_cons (fe_var 0) fa_nil)) (fe_one (fe_cmp op_gt (vb_cmp _).v2 (fe_ix ix_seq v_ix (fe_var 0) fe_int (fun _ _ => rfl)) fe_int (nomark _))))))
theorem sc_is_part : FnScope ["value"] ["value"] (defScope (topS 16)) := ⟨rfl, rfl, rfl, by decide +kernel, rfl, by decide +kernel, by decide +kernel⟩
theorem has_is_part (T : Tx K mg) (h_is_above : Has P w K mg base 4 "is_above" "is_above" (topS 13) [] ["value"] F_is_above) : Has P w K mg base 5 "is_part" "is_part" (topS 16) [] ["value"] F_is_part := by
  refine has_of (k := 4) T.a_is_part sc_is_part fun f cdv A outer s H E gd hr => ?_
  have nd := sc_is_part.nd
  have hu := hr.units
  have tk := takes_of (X := cxOf (L2.CX P w) P w K mg base ["value"] "is_part" (defScope (topS 16)) f cdv A outer s H E) rfl rfl rfl rfl
  have hp := passes_of (X := cxOf (L2.CX P w) P w K mg base ["value"] "is_part" (defScope (topS 16)) f cdv A outer s H E) rfl
  exact (fss_one (fs_ret (fe_and (fe_fn (n := 1) (ps := ["value"]) (pm := [0]) h_is_above gd (hr.mono (show 4 ≤ 4 from by decide)) tk (fun _ _ _ _ _ _ us ws hu hw => match us, ws, hu, hw with | [_], [], _, _ => rfl) (fa_cons (fe_var 0) fa_nil)) (fe_one (fe_cmp op_le (vb_cmp _).v2 (fe_ix ix_seq v_ix (fe_var 0) fe_int (fun _ _ => rfl)) (fe_ix ix_seq v_ix (fe_var 0) fe_int (fun _ _ => rfl)) (nomark _))))))
theorem sc_check_part : FnScope ["fraction"] ["fraction"] (defScope (topS 18)) := ⟨rfl, rfl, rfl, by decide +kernel, rfl, by decide +kernel, by decide +kernel⟩
theorem has_check_part (T : Tx K mg) (h_is_part : Has P w K mg base 5 "is_part" "is_part" (topS 16) [] ["value"] F_is_part) : Has P w K mg base 6 "check_part" "check_part" (topS 18) [] ["fraction"] F_check_part := by
  refine has_of (k := 5) T.a_check_part sc_check_part fun f cdv A outer s H E gd hr => ?_
  have nd := sc_check_part.nd
  have hu := hr.units
  have tk := takes_of (X := cxOf (L2.CX P w) P w K mg base ["fraction"] "check_part" (defScope (topS 18)) f cdv A outer s H E) rfl rfl rfl rfl
  have hp := passes_of (X := cxOf (L2.CX P w) P w K mg base ["fraction"] "check_part" (defScope (topS 18)) f cdv A outer s H E) rfl
  exact (fss_one (fs_if (ft_not (ft_tru (fe_fn (n := 1) (ps := ["value"]) (pm := [0]) h_is_part gd (hr.mono (show 5 ≤ 5 from by decide)) tk (fun _ _ _ _ _ _ us ws hu hw => match us, ws, hu, hw with | [_], [], _, _ => rfl) (fa_cons (fe_var 0) fa_nil)))) (fss_one fs_never) fss_nil))
theorem sc_triples : FnScope ["fraction"] ["fraction"] (defScope (topS 19)) := ⟨rfl, rfl, rfl, by decide +kernel, rfl, by decide +kernel, by decide +kernel⟩
theorem has_triples (T : Tx K mg) (h_check_part : Has P w K mg base 6 "check_part" "check_part" (topS 18) [] ["fraction"] F_check_part) (h_triples_by : Has P w K mg base 3 "triples_by" "triples_by" (topS 17) [] ["fraction"] F_triples_by) : Has P w K mg base 7 "triples" "triples" (topS 19) [] ["fraction"] F_triples := by
  refine has_of (k := 6) T.a_triples sc_triples fun f cdv A outer s H E gd hr => ?_
  have nd := sc_triples.nd
  have hu := hr.units
  have tk := takes_of (X := cxOf (L2.CX P w) P w K mg base ["fraction"] "triples" (defScope (topS 19)) f cdv A outer s H E) rfl rfl rfl rfl
  have hp := passes_of (X := cxOf (L2.CX P w) P w K mg base ["fraction"] "triples" (defScope (topS 19)) f cdv A outer s H E) rfl
  exact (fss_cons (fs_expr (fe_fn (n := 1) (ps := ["fraction"]) (pm := [0]) h_check_part gd (hr.mono (show 6 ≤ 6 from by decide)) tk (fun _ _ _ _ _ _ us ws hu hw => match us, ws, hu, hw with | [_], [], _, _ => rfl) (fa_cons (fe_var 0) fa_nil)))
    (fss_one (fs_ret (fe_fn (n := 1) (ps := ["fraction"]) (pm := [0]) h_triples_by gd (hr.mono (show 3 ≤ 6 from by decide)) tk (fun _ _ _ _ _ _ us ws hu hw => match us, ws, hu, hw with | [_], [], _, _ => rfl) (fa_cons (fe_var 0) fa_nil)))))
theorem sc__law_right : FnScope ["pool", "most", "fraction", "one", "due", "top", "low", "some", "two", "left", "under", "last"] ["pool", "most"] (defScope (topS 26)) := ⟨rfl, rfl, rfl, by decide +kernel, rfl, by decide +kernel, by decide +kernel⟩
theorem has__law_right (T : Tx K mg) (h__law_small : Has P w K mg base 2 "_law_small" "_law_small" (topS 25) [] ["pool", "most"] F__law_small) (h_triples : Has P w K mg base 7 "triples" "triples" (topS 19) [] ["fraction"] F_triples) : Has P w K mg base 8 "_law_right" "_law_right" (topS 26) [] ["pool", "most"] F__law_right := by
  refine has_of (k := 7) T.a__law_right sc__law_right fun f cdv A outer s H E gd hr => ?_
  have nd := sc__law_right.nd
  have hu := hr.units
  have tk := takes_of (X := cxOf (L2.CX P w) P w K mg base ["pool", "most", "fraction", "one", "due", "top", "low", "some", "two", "left", "under", "last"] "_law_right" (defScope (topS 26)) f cdv A outer s H E) rfl rfl rfl rfl
  have hp := passes_of (X := cxOf (L2.CX P w) P w K mg base ["pool", "most", "fraction", "one", "due", "top", "low", "some", "two", "left", "under", "last"] "_law_right" (defScope (topS 26)) f cdv A outer s H E) rfl
  exact (fss_cons (fs_asg (ws := [2]) (fe_fn (n := 2) (ps := ["pool", "most"]) (pm := [0, 1]) h__law_small gd (hr.mono (show 2 ≤ 7 from by decide)) tk (fun _ _ _ _ _ _ us ws hu hw => match us, ws, hu, hw with | [_, _], [], _, _ => rfl) (fa_cons (fe_var 0) (fa_cons (fe_var 1) fa_nil))) (fg_name (ws := [2]) (i := 2) nd))
    (fss_cons (fs_if (ft_cmp op_lt (vb_cmp _).v2 (fe_op op_mulB v_mulI fe_int (fe_ix ix_seq v_ix (fe_var 2) fe_int (fun _ _ => rfl))) (fe_ix ix_seq v_ix (fe_var 2) fe_int (fun _ _ => rfl)) (nomark _)) (fss_one (fs_asg (ws := [2]) (fe_tup (fa_cons fe_int (fa_cons (fe_op op_addAll v_add fe_int (fe_op op_mod v_mod (fe_ix ix_seq v_ix (fe_var 2) fe_int (fun _ _ => rfl)) fe_int)) fa_nil))) (fg_name (ws := [2]) (i := 2) nd))) fss_nil)
    (fss_cons (fs_par3 (i := 4) (j := 5) (l := 6) rfl nd rfl rfl rfl (fa_cons (fe_lst fa_nil) (fa_cons (fe_ix ix_seq v_ix (fe_var 2) fe_int (fun _ _ => rfl)) (fa_cons (fe_ix ix_seq v_ix (fe_var 2) fe_int (fun _ _ => rfl)) fa_nil))))
    (fss_cons (fs_for hp rfl (fi_range2 T.n_range (fa_cons (fe_op op_divB v_div (fe_var 6) (fe_var 5)) (fa_cons (fe_op op_addAll v_add (fe_callB (call_min2 rfl) v_min2 T.n_min PyProof.Rows.boot_min (fa_cons fe_int (fa_cons (fe_op op_divB v_div (fe_op op_mulB v_mulI fe_int (fe_var 6)) (fe_var 5)) fa_nil))) fe_int) fa_nil))) (fg_name (ws := [3]) (i := 3) nd) (fss_cons (fs_par (i := 9) (j := 10) rfl nd rfl rfl (fa_cons (fe_op op_sub v_sub (fe_op op_mulB v_mulI (fe_var 5) (fe_var 3)) (fe_var 6)) (fa_cons (fe_op op_mulB v_mulI (fe_var 6) (fe_var 3)) fa_nil)))
    (fss_cons (fs_asg (ws := [7]) (fe_if (ft_cmp op_gt (vb_cmp _).v2 (fe_var 9) fe_int (nomark _)) (fe_lr rfl T.n_list T.n_range (fe_op op_addAll v_add (fe_callB (call_max2 rfl) v_max2 T.n_max PyProof.Rows.boot_max (fa_cons (fe_var 3) (fa_cons (fe_op op_divB v_div (fe_var 10) (fe_var 9)) fa_nil))) fe_int) (fe_op op_addAll v_add (fe_callB (call_min2 rfl) v_min2 T.n_min PyProof.Rows.boot_min (fa_cons fe_int (fa_cons (fe_op op_divB v_div (fe_op op_mulB v_mulI fe_int (fe_var 10)) (fe_var 9)) fa_nil))) fe_int)) (fe_lst fa_nil)) (fg_name (ws := [7]) (i := 7) nd))
    (fss_one (fs_for hp rfl (fi_of (fe_var 7)) (fg_name (ws := [8]) (i := 8) nd) (fss_cons (fs_asg (ws := [11]) (fe_op op_sub v_sub (fe_op op_mulB v_mulI (fe_var 9) (fe_var 8)) (fe_var 10)) (fg_name (ws := [11]) (i := 11) nd))
    (fss_one (fs_if (FW.ft (fw_and (ft_cmp op_gt (vb_cmp _).v2 (fe_var 11) fe_int (nomark _)) (fw_and (ft_cmp (op_eqAll hu) vb_eq.v2 (fe_op op_mod v_mod (fe_op op_mulB v_mulI (fe_var 10) (fe_var 8)) (fe_var 11)) fe_int (nomark _)) (fw_and1 (ft_chain op_lt op_lt (vb_cmp _) (vb_cmp _) (fe_var 8) (fe_op op_divB v_div (fe_op op_mulB v_mulI (fe_var 10) (fe_var 8)) (fe_var 11)) fe_int))))) (fss_one (fs_expr (fe_append (fe_var 4) (fa_cons (fe_tup (fa_cons (fe_var 3) (fa_cons (fe_var 8) (fa_cons (fe_op op_divB v_div (fe_op op_mulB v_mulI (fe_var 10) (fe_var 8)) (fe_var 11)) fa_nil)))) fa_nil)))) fss_nil))))))))
    (fss_cons (fs_if (ft_cmp (op_neAll hu) vb_ne.v2 (fe_gc (fe_callB (call_repr gd (lt_line hu (by decide))) v_repr T.n_repr PyProof.Rows.boot_repr (fa_cons (fe_lst (fa_cons (fe_fn (n := 1) (ps := ["fraction"]) (pm := [0]) h_triples gd (hr.mono (show 7 ≤ 7 from by decide)) tk (fun _ _ _ _ _ _ us ws hu hw => match us, ws, hu, hw with | [_], [], _, _ => rfl) (fa_cons (fe_var 2) fa_nil)) (fa_cons (fe_fnK0 (ks := ["fraction"]) (ps := ["fraction"]) (pm := [0]) h_triples gd (hr.mono (show 7 ≤ 7 from by decide)) tk (fun _ _ _ _ _ _ us ws hu hw => match us, ws, hu, hw with | [], [_], _, _ => rfl) (fk_cons (fe_var 2) fk_nil)) fa_nil))) fa_nil))) (fe_callB (call_repr gd (lt_line hu (by decide))) v_repr T.n_repr PyProof.Rows.boot_repr (fa_cons (fe_op op_mulA v_mulA (fe_lst (fa_cons (fe_callTy call_tuple_of v_tuple T.n_tuple PyProof.Rows.boot_tuple (fa_cons (fe_var 4) fa_nil)) fa_nil)) fe_int) fa_nil)) (nomark _)) (fss_one (fs_ret fe_bl)) fss_nil)
    (fss_one (fs_ret (fe_cmp (op_eqAll hu) vb_eq.v2 (fe_fn (n := 1) (ps := ["fraction"]) (pm := [0]) h_triples gd (hr.mono (show 7 ≤ 7 from by decide)) tk (fun _ _ _ _ _ _ us ws hu hw => match us, ws, hu, hw with | [_], [], _, _ => rfl) (fa_cons (fe_tup (fa_cons fe_int (fa_cons fe_int fa_nil))) fa_nil)) (fe_tup (fa_cons (fe_tup (fa_cons fe_int (fa_cons fe_int (fa_cons fe_int fa_nil)))) fa_nil)) (nomark _)))))))))
theorem sc_law : FnScope ["script", "k", "pool", "most"] ["script"] (defScope (topS 27)) := ⟨rfl, rfl, rfl, by decide +kernel, rfl, by decide +kernel, by decide +kernel⟩
theorem has_law (T : Tx K mg) (h__law_pool : Has P w K mg base 1 "_law_pool" "_law_pool" (topS 21) [] ["script", "k"] F__law_pool) (h__law_right : Has P w K mg base 8 "_law_right" "_law_right" (topS 26) [] ["pool", "most"] F__law_right) : Has P w K mg base 9 "law" "law" (topS 27) [] ["script"] F_law := by
  refine has_of (k := 8) T.a_law sc_law fun f cdv A outer s H E gd hr => ?_
  have nd := sc_law.nd
  have hu := hr.units
  have tk := takes_of (X := cxOf (L2.CX P w) P w K mg base ["script", "k", "pool", "most"] "law" (defScope (topS 27)) f cdv A outer s H E) rfl rfl rfl rfl
  have hp := passes_of (X := cxOf (L2.CX P w) P w K mg base ["script", "k", "pool", "most"] "law" (defScope (topS 27)) f cdv A outer s H E) rfl
  exact (fss_cons (fs_for hp rfl (fi_range1 T.n_range (fa_cons (fe_callB (call_max2 rfl) v_max2 T.n_max PyProof.Rows.boot_max (fa_cons fe_int (fa_cons (fe_callB (call_min2 rfl) v_min2 T.n_min PyProof.Rows.boot_min (fa_cons (fe_callB call_len v_len T.n_len PySem.boot_len (fa_cons (fe_var 0) fa_nil)) (fa_cons fe_int fa_nil))) fa_nil))) fa_nil)) (fg_name (ws := [1]) (i := 1) nd) (fss_cons (fs_asg (ws := [2]) (fe_fn (n := 2) (ps := ["script", "k"]) (pm := [0, 1]) h__law_pool gd (hr.mono (show 1 ≤ 8 from by decide)) tk (fun _ _ _ _ _ _ us ws hu hw => match us, ws, hu, hw with | [_, _], [], _, _ => rfl) (fa_cons (fe_var 0) (fa_cons (fe_var 1) fa_nil))) (fg_name (ws := [2]) (i := 2) nd))
    (fss_one (fs_for hp rfl (fi_of (fe_lst (fa_cons fe_int (fa_cons fe_int (fa_cons fe_int (fa_cons fe_int fa_nil)))))) (fg_name (ws := [3]) (i := 3) nd) (fss_one (fs_if (ft_not (ft_tru (fe_fn (n := 2) (ps := ["pool", "most"]) (pm := [0, 1]) h__law_right gd (hr.mono (show 8 ≤ 8 from by decide)) tk (fun _ _ _ _ _ _ us ws hu hw => match us, ws, hu, hw with | [_, _], [], _, _ => rfl) (fa_cons (fe_var 2) (fa_cons (fe_var 3) fa_nil))))) (fss_one (fs_ret fe_bl)) fss_nil))))))
    (fss_one (fs_ret fe_bl)))
/-- all of them -/
theorem all_has (T : Tx K mg) : Has P w K mg base 9 "law" "law" (topS 27) [] ["script"] F_law := by
  have h_is_whole : Has P w K mg base 1 "is_whole" "is_whole" (topS 5) [] ["value"] F_is_whole := has_is_whole T 
  have h_is_tuple_of : Has P w K mg base 1 "is_tuple_of" "is_tuple_of" (topS 7) [] ["value", "many"] F_is_tuple_of := has_is_tuple_of T 
  have h_lowest : Has P w K mg base 1 "lowest" "lowest" (topS 8) [] ["over", "under"] F_lowest := has_lowest T 
  have h__law_pool : Has P w K mg base 1 "_law_pool" "_law_pool" (topS 21) [] ["script", "k"] F__law_pool := has__law_pool T 
  have h__law_take : Has P w K mg base 1 "_law_take" "_law_take" (topS 22) [] ["pool", "many"] F__law_take := has__law_take T 
  have h__law_frac : Has P w K mg base 1 "_law_frac" "_law_frac" (topS 24) [] ["top", "low"] F__law_frac := has__law_frac T 
  have h_is_between : Has P w K mg base 2 "is_between" "is_between" (topS 6) [] ["value", "least", "most"] F_is_between := has_is_between T h_is_whole
  have h_less_by : Has P w K mg base 2 "less_by" "less_by" (topS 9) [] ["one", "other"] F_less_by := has_less_by T h_lowest
  have h__law_small : Has P w K mg base 2 "_law_small" "_law_small" (topS 25) [] ["pool", "most"] F__law_small := has__law_small T h__law_take h__law_frac
  have h_is_given : Has P w K mg base 3 "is_given" "is_given" (topS 12) [] ["value"] F_is_given := has_is_given T h_is_between h_is_tuple_of
  have h_triples_by : Has P w K mg base 3 "triples_by" "triples_by" (topS 17) [] ["fraction"] F_triples_by := has_triples_by T h_less_by
  have h_is_above : Has P w K mg base 4 "is_above" "is_above" (topS 13) [] ["value"] F_is_above := has_is_above T h_is_given
  have h_is_part : Has P w K mg base 5 "is_part" "is_part" (topS 16) [] ["value"] F_is_part := has_is_part T h_is_above
  have h_check_part : Has P w K mg base 6 "check_part" "check_part" (topS 18) [] ["fraction"] F_check_part := has_check_part T h_is_part
  have h_triples : Has P w K mg base 7 "triples" "triples" (topS 19) [] ["fraction"] F_triples := has_triples T h_check_part h_triples_by
  have h__law_right : Has P w K mg base 8 "_law_right" "_law_right" (topS 26) [] ["pool", "most"] F__law_right := has__law_right T h__law_small h_triples
  have h_law : Has P w K mg base 9 "law" "law" (topS 27) [] ["script"] F_law := has_law T h__law_pool h__law_right
  exact h_law
end
/-! ### the facts of the top -/
theorem tx_mk {K : PySem.W.Frag} {h : Heap} {mg : Str → Option Value} (X : K.In h) (G : h.Ns mainGlobals mg)
    {kt_MOST_NUMBER_1 : Tok}
    {kt_MOST_TRIPLE_1 : Tok}
    {f_is_whole : Addr} {od_is_whole an_is_whole : Option Addr} {sl_is_whole : Array (Option Value)} {oc_is_whole kV_is_whole dc_is_whole pm_is_whole cd_is_whole ct_is_whole : Value}
    {f_is_tuple_of : Addr} {od_is_tuple_of an_is_tuple_of : Option Addr} {sl_is_tuple_of : Array (Option Value)} {oc_is_tuple_of kV_is_tuple_of dc_is_tuple_of pm_is_tuple_of cd_is_tuple_of ct_is_tuple_of : Value}
    {f_lowest : Addr} {od_lowest an_lowest : Option Addr} {sl_lowest : Array (Option Value)} {oc_lowest kV_lowest dc_lowest pm_lowest cd_lowest ct_lowest : Value}
    {f__law_pool : Addr} {od__law_pool an__law_pool : Option Addr} {sl__law_pool : Array (Option Value)} {oc__law_pool kV__law_pool dc__law_pool pm__law_pool cd__law_pool ct__law_pool : Value}
    {f__law_take : Addr} {od__law_take an__law_take : Option Addr} {sl__law_take : Array (Option Value)} {oc__law_take kV__law_take dc__law_take pm__law_take cd__law_take ct__law_take : Value}
    {f__law_frac : Addr} {od__law_frac an__law_frac : Option Addr} {sl__law_frac : Array (Option Value)} {oc__law_frac kV__law_frac dc__law_frac pm__law_frac cd__law_frac ct__law_frac : Value}
    {f_is_between : Addr} {od_is_between an_is_between : Option Addr} {sl_is_between : Array (Option Value)} {oc_is_between kV_is_between dc_is_between pm_is_between cd_is_between ct_is_between : Value}
    {f_less_by : Addr} {od_less_by an_less_by : Option Addr} {sl_less_by : Array (Option Value)} {oc_less_by kV_less_by dc_less_by pm_less_by cd_less_by ct_less_by : Value}
    {f__law_small : Addr} {od__law_small an__law_small : Option Addr} {sl__law_small : Array (Option Value)} {oc__law_small kV__law_small dc__law_small pm__law_small cd__law_small ct__law_small : Value}
    {f_is_given : Addr} {od_is_given an_is_given : Option Addr} {sl_is_given : Array (Option Value)} {oc_is_given kV_is_given dc_is_given pm_is_given cd_is_given ct_is_given : Value}
    {f_triples_by : Addr} {od_triples_by an_triples_by : Option Addr} {sl_triples_by : Array (Option Value)} {oc_triples_by kV_triples_by dc_triples_by pm_triples_by cd_triples_by ct_triples_by : Value}
    {f_is_above : Addr} {od_is_above an_is_above : Option Addr} {sl_is_above : Array (Option Value)} {oc_is_above kV_is_above dc_is_above pm_is_above cd_is_above ct_is_above : Value}
    {f_is_part : Addr} {od_is_part an_is_part : Option Addr} {sl_is_part : Array (Option Value)} {oc_is_part kV_is_part dc_is_part pm_is_part cd_is_part ct_is_part : Value}
    {f_check_part : Addr} {od_check_part an_check_part : Option Addr} {sl_check_part : Array (Option Value)} {oc_check_part kV_check_part dc_check_part pm_check_part cd_check_part ct_check_part : Value}
    {f_triples : Addr} {od_triples an_triples : Option Addr} {sl_triples : Array (Option Value)} {oc_triples kV_triples dc_triples pm_triples cd_triples ct_triples : Value}
    {f__law_right : Addr} {od__law_right an__law_right : Option Addr} {sl__law_right : Array (Option Value)} {oc__law_right kV__law_right dc__law_right pm__law_right cd__law_right ct__law_right : Value}
    {f_law : Addr} {od_law an_law : Option Addr} {sl_law : Array (Option Value)} {oc_law kV_law dc_law pm_law cd_law ct_law : Value}
    (z_abs : PySem.W.nsIn K mainGlobals "abs" = some none)
    (z_bool : PySem.W.nsIn K mainGlobals "bool" = some none)
    (z_divmod : PySem.W.nsIn K mainGlobals "divmod" = some none)
    (z_int : PySem.W.nsIn K mainGlobals "int" = some none)
    (z_isinstance : PySem.W.nsIn K mainGlobals "isinstance" = some none)
    (z_len : PySem.W.nsIn K mainGlobals "len" = some none)
    (z_list : PySem.W.nsIn K mainGlobals "list" = some none)
    (z_max : PySem.W.nsIn K mainGlobals "max" = some none)
    (z_min : PySem.W.nsIn K mainGlobals "min" = some none)
    (z_range : PySem.W.nsIn K mainGlobals "range" = some none)
    (z_repr : PySem.W.nsIn K mainGlobals "repr" = some none)
    (z_sum : PySem.W.nsIn K mainGlobals "sum" = some none)
    (z_tuple : PySem.W.nsIn K mainGlobals "tuple" = some none)
    (i_gcd : PySem.W.nsIn K mainGlobals "gcd" = some (some (.builtin "math.gcd")))
    (kg_MOST_NUMBER : PySem.W.nsIn K mainGlobals "MOST_NUMBER" = some (some (.int 999 kt_MOST_NUMBER_1)))
    (kg_MOST_TRIPLE : PySem.W.nsIn K mainGlobals "MOST_TRIPLE" = some (some (.int 999 kt_MOST_TRIPLE_1)))
    (a_is_whole : PySem.W.nsIn K mainGlobals "is_whole" = some (some (.ref f_is_whole)))
    (l_is_whole : K.lookup f_is_whole = some ⟨oc_is_whole, od_is_whole, .func (PySem.W.fnOf "is_whole" "is_whole" (defArgs (topS 5)) (defBody (topS 5)) (defScope (topS 5)) .none kV_is_whole dc_is_whole pm_is_whole an_is_whole cd_is_whole ct_is_whole), sl_is_whole⟩)
    (c_is_whole : PySem.W.codeIn K cd_is_whole "is_whole" = true)
    (q_is_whole : PySem.W.keepIn K (.ref f_is_whole) = true)
    (a_is_tuple_of : PySem.W.nsIn K mainGlobals "is_tuple_of" = some (some (.ref f_is_tuple_of)))
    (l_is_tuple_of : K.lookup f_is_tuple_of = some ⟨oc_is_tuple_of, od_is_tuple_of, .func (PySem.W.fnOf "is_tuple_of" "is_tuple_of" (defArgs (topS 7)) (defBody (topS 7)) (defScope (topS 7)) .none kV_is_tuple_of dc_is_tuple_of pm_is_tuple_of an_is_tuple_of cd_is_tuple_of ct_is_tuple_of), sl_is_tuple_of⟩)
    (c_is_tuple_of : PySem.W.codeIn K cd_is_tuple_of "is_tuple_of" = true)
    (q_is_tuple_of : PySem.W.keepIn K (.ref f_is_tuple_of) = true)
    (a_lowest : PySem.W.nsIn K mainGlobals "lowest" = some (some (.ref f_lowest)))
    (l_lowest : K.lookup f_lowest = some ⟨oc_lowest, od_lowest, .func (PySem.W.fnOf "lowest" "lowest" (defArgs (topS 8)) (defBody (topS 8)) (defScope (topS 8)) .none kV_lowest dc_lowest pm_lowest an_lowest cd_lowest ct_lowest), sl_lowest⟩)
    (c_lowest : PySem.W.codeIn K cd_lowest "lowest" = true)
    (q_lowest : PySem.W.keepIn K (.ref f_lowest) = true)
    (a__law_pool : PySem.W.nsIn K mainGlobals "_law_pool" = some (some (.ref f__law_pool)))
    (l__law_pool : K.lookup f__law_pool = some ⟨oc__law_pool, od__law_pool, .func (PySem.W.fnOf "_law_pool" "_law_pool" (defArgs (topS 21)) (defBody (topS 21)) (defScope (topS 21)) .none kV__law_pool dc__law_pool pm__law_pool an__law_pool cd__law_pool ct__law_pool), sl__law_pool⟩)
    (c__law_pool : PySem.W.codeIn K cd__law_pool "_law_pool" = true)
    (q__law_pool : PySem.W.keepIn K (.ref f__law_pool) = true)
    (a__law_take : PySem.W.nsIn K mainGlobals "_law_take" = some (some (.ref f__law_take)))
    (l__law_take : K.lookup f__law_take = some ⟨oc__law_take, od__law_take, .func (PySem.W.fnOf "_law_take" "_law_take" (defArgs (topS 22)) (defBody (topS 22)) (defScope (topS 22)) .none kV__law_take dc__law_take pm__law_take an__law_take cd__law_take ct__law_take), sl__law_take⟩)
    (c__law_take : PySem.W.codeIn K cd__law_take "_law_take" = true)
    (q__law_take : PySem.W.keepIn K (.ref f__law_take) = true)
    (a__law_frac : PySem.W.nsIn K mainGlobals "_law_frac" = some (some (.ref f__law_frac)))
    (l__law_frac : K.lookup f__law_frac = some ⟨oc__law_frac, od__law_frac, .func (PySem.W.fnOf "_law_frac" "_law_frac" (defArgs (topS 24)) (defBody (topS 24)) (defScope (topS 24)) .none kV__law_frac dc__law_frac pm__law_frac an__law_frac cd__law_frac ct__law_frac), sl__law_frac⟩)
    (c__law_frac : PySem.W.codeIn K cd__law_frac "_law_frac" = true)
    (q__law_frac : PySem.W.keepIn K (.ref f__law_frac) = true)
    (a_is_between : PySem.W.nsIn K mainGlobals "is_between" = some (some (.ref f_is_between)))
    (l_is_between : K.lookup f_is_between = some ⟨oc_is_between, od_is_between, .func (PySem.W.fnOf "is_between" "is_between" (defArgs (topS 6)) (defBody (topS 6)) (defScope (topS 6)) .none kV_is_between dc_is_between pm_is_between an_is_between cd_is_between ct_is_between), sl_is_between⟩)
    (c_is_between : PySem.W.codeIn K cd_is_between "is_between" = true)
    (q_is_between : PySem.W.keepIn K (.ref f_is_between) = true)
    (a_less_by : PySem.W.nsIn K mainGlobals "less_by" = some (some (.ref f_less_by)))
    (l_less_by : K.lookup f_less_by = some ⟨oc_less_by, od_less_by, .func (PySem.W.fnOf "less_by" "less_by" (defArgs (topS 9)) (defBody (topS 9)) (defScope (topS 9)) .none kV_less_by dc_less_by pm_less_by an_less_by cd_less_by ct_less_by), sl_less_by⟩)
    (c_less_by : PySem.W.codeIn K cd_less_by "less_by" = true)
    (q_less_by : PySem.W.keepIn K (.ref f_less_by) = true)
    (a__law_small : PySem.W.nsIn K mainGlobals "_law_small" = some (some (.ref f__law_small)))
    (l__law_small : K.lookup f__law_small = some ⟨oc__law_small, od__law_small, .func (PySem.W.fnOf "_law_small" "_law_small" (defArgs (topS 25)) (defBody (topS 25)) (defScope (topS 25)) .none kV__law_small dc__law_small pm__law_small an__law_small cd__law_small ct__law_small), sl__law_small⟩)
    (c__law_small : PySem.W.codeIn K cd__law_small "_law_small" = true)
    (q__law_small : PySem.W.keepIn K (.ref f__law_small) = true)
    (a_is_given : PySem.W.nsIn K mainGlobals "is_given" = some (some (.ref f_is_given)))
    (l_is_given : K.lookup f_is_given = some ⟨oc_is_given, od_is_given, .func (PySem.W.fnOf "is_given" "is_given" (defArgs (topS 12)) (defBody (topS 12)) (defScope (topS 12)) .none kV_is_given dc_is_given pm_is_given an_is_given cd_is_given ct_is_given), sl_is_given⟩)
    (c_is_given : PySem.W.codeIn K cd_is_given "is_given" = true)
    (q_is_given : PySem.W.keepIn K (.ref f_is_given) = true)
    (a_triples_by : PySem.W.nsIn K mainGlobals "triples_by" = some (some (.ref f_triples_by)))
    (l_triples_by : K.lookup f_triples_by = some ⟨oc_triples_by, od_triples_by, .func (PySem.W.fnOf "triples_by" "triples_by" (defArgs (topS 17)) (defBody (topS 17)) (defScope (topS 17)) .none kV_triples_by dc_triples_by pm_triples_by an_triples_by cd_triples_by ct_triples_by), sl_triples_by⟩)
    (c_triples_by : PySem.W.codeIn K cd_triples_by "triples_by" = true)
    (q_triples_by : PySem.W.keepIn K (.ref f_triples_by) = true)
    (a_is_above : PySem.W.nsIn K mainGlobals "is_above" = some (some (.ref f_is_above)))
    (l_is_above : K.lookup f_is_above = some ⟨oc_is_above, od_is_above, .func (PySem.W.fnOf "is_above" "is_above" (defArgs (topS 13)) (defBody (topS 13)) (defScope (topS 13)) .none kV_is_above dc_is_above pm_is_above an_is_above cd_is_above ct_is_above), sl_is_above⟩)
    (c_is_above : PySem.W.codeIn K cd_is_above "is_above" = true)
    (q_is_above : PySem.W.keepIn K (.ref f_is_above) = true)
    (a_is_part : PySem.W.nsIn K mainGlobals "is_part" = some (some (.ref f_is_part)))
    (l_is_part : K.lookup f_is_part = some ⟨oc_is_part, od_is_part, .func (PySem.W.fnOf "is_part" "is_part" (defArgs (topS 16)) (defBody (topS 16)) (defScope (topS 16)) .none kV_is_part dc_is_part pm_is_part an_is_part cd_is_part ct_is_part), sl_is_part⟩)
    (c_is_part : PySem.W.codeIn K cd_is_part "is_part" = true)
    (q_is_part : PySem.W.keepIn K (.ref f_is_part) = true)
    (a_check_part : PySem.W.nsIn K mainGlobals "check_part" = some (some (.ref f_check_part)))
    (l_check_part : K.lookup f_check_part = some ⟨oc_check_part, od_check_part, .func (PySem.W.fnOf "check_part" "check_part" (defArgs (topS 18)) (defBody (topS 18)) (defScope (topS 18)) .none kV_check_part dc_check_part pm_check_part an_check_part cd_check_part ct_check_part), sl_check_part⟩)
    (c_check_part : PySem.W.codeIn K cd_check_part "check_part" = true)
    (q_check_part : PySem.W.keepIn K (.ref f_check_part) = true)
    (a_triples : PySem.W.nsIn K mainGlobals "triples" = some (some (.ref f_triples)))
    (l_triples : K.lookup f_triples = some ⟨oc_triples, od_triples, .func (PySem.W.fnOf "triples" "triples" (defArgs (topS 19)) (defBody (topS 19)) (defScope (topS 19)) .none kV_triples dc_triples pm_triples an_triples cd_triples ct_triples), sl_triples⟩)
    (c_triples : PySem.W.codeIn K cd_triples "triples" = true)
    (q_triples : PySem.W.keepIn K (.ref f_triples) = true)
    (a__law_right : PySem.W.nsIn K mainGlobals "_law_right" = some (some (.ref f__law_right)))
    (l__law_right : K.lookup f__law_right = some ⟨oc__law_right, od__law_right, .func (PySem.W.fnOf "_law_right" "_law_right" (defArgs (topS 26)) (defBody (topS 26)) (defScope (topS 26)) .none kV__law_right dc__law_right pm__law_right an__law_right cd__law_right ct__law_right), sl__law_right⟩)
    (c__law_right : PySem.W.codeIn K cd__law_right "_law_right" = true)
    (q__law_right : PySem.W.keepIn K (.ref f__law_right) = true)
    (a_law : PySem.W.nsIn K mainGlobals "law" = some (some (.ref f_law)))
    (l_law : K.lookup f_law = some ⟨oc_law, od_law, .func (PySem.W.fnOf "law" "law" (defArgs (topS 27)) (defBody (topS 27)) (defScope (topS 27)) .none kV_law dc_law pm_law an_law cd_law ct_law), sl_law⟩)
    (c_law : PySem.W.codeIn K cd_law "law" = true)
    (q_law : PySem.W.keepIn K (.ref f_law) = true)
    : Tx K mg := ⟨PySem.W.mg_none_of X G z_abs,
      PySem.W.mg_none_of X G z_bool,
      PySem.W.mg_none_of X G z_divmod,
      PySem.W.mg_none_of X G z_int,
      PySem.W.mg_none_of X G z_isinstance,
      PySem.W.mg_none_of X G z_len,
      PySem.W.mg_none_of X G z_list,
      PySem.W.mg_none_of X G z_max,
      PySem.W.mg_none_of X G z_min,
      PySem.W.mg_none_of X G z_range,
      PySem.W.mg_none_of X G z_repr,
      PySem.W.mg_none_of X G z_sum,
      PySem.W.mg_none_of X G z_tuple,
      PySem.W.mg_of X G i_gcd,
      kd_of X G kg_MOST_NUMBER kv_int,
      kd_of X G kg_MOST_TRIPLE kv_int,
      at_of X G a_is_whole l_is_whole c_is_whole q_is_whole,
      at_of X G a_is_tuple_of l_is_tuple_of c_is_tuple_of q_is_tuple_of,
      at_of X G a_lowest l_lowest c_lowest q_lowest,
      at_of X G a__law_pool l__law_pool c__law_pool q__law_pool,
      at_of X G a__law_take l__law_take c__law_take q__law_take,
      at_of X G a__law_frac l__law_frac c__law_frac q__law_frac,
      at_of X G a_is_between l_is_between c_is_between q_is_between,
      at_of X G a_less_by l_less_by c_less_by q_less_by,
      at_of X G a__law_small l__law_small c__law_small q__law_small,
      at_of X G a_is_given l_is_given c_is_given q_is_given,
      at_of X G a_triples_by l_triples_by c_triples_by q_triples_by,
      at_of X G a_is_above l_is_above c_is_above q_is_above,
      at_of X G a_is_part l_is_part c_is_part q_is_part,
      at_of X G a_check_part l_check_part c_check_part q_check_part,
      at_of X G a_triples l_triples c_triples q_triples,
      at_of X G a__law_right l__law_right c__law_right q__law_right,
      at_of X G a_law l_law c_law q_law⟩
theorem law_mk {l : PySem.W.OpenLaw} {w : World} {K : PySem.W.Frag} {h : Heap} {mg : Str → Option Value} {fa : Addr} (T : Tx K mg) (hfa : mg "law" = some (.ref fa)) :
    ∃ fd : FuncData, (∀ (s : Shared) (u : Value), BindsTo s fd ⟨[u], []⟩ [("script", u)]) ∧ ∀ base : Heap, K.In base → base.Ns mainGlobals mg → FnG l.prog w K mg base 9 fa fd ["script"] F_law := by
  obtain ⟨f, fd, dV, F, dd, hm⟩ := T.a_law
  obtain ⟨_, rfl⟩ := dd.resolve_right fun z => z.1 rfl
  have e := hfa.symm.trans hm
  cases e
  refine ⟨fd, fun s u => ?_, fun base _ _ => ?_⟩
  · obtain ⟨oc, od, kV, doc, pm, an, cdv, ct, osl, rfl, lk, hcd⟩ := F.ex
    exact .of_eq rfl
  · obtain ⟨f2, fd2, dV2, F2, dd2, hm2, G2⟩ := (all_has (P := l.prog) (w := w) (base := base) T).ex
    obtain ⟨_, rfl⟩ := dd2.resolve_right fun z => z.1 rfl
    have e := hm.symm.trans hm2
    cases e
    obtain ⟨oc, od, kV, doc, pm, an, cdv, ct, osl, rfl, lk, hcd⟩ := F.ex
    obtain ⟨oc2, od2, kV2, doc2, pm2, an2, cdv2, ct2, osl2, rfl, lk2, hcd2⟩ := F2.ex
    rw [lk] at lk2
    cases lk2
    exact G2
end Lw

open PySem PySem.W PyProof.Rows
theorem PySem.Challenge.cw_fractiontrees_k45_triples_holds : PySem.Challenge.rw_fractiontrees_k45_triples.Holds := by
  w_on; o_law; k_head; (case hw => w_witness2)
  k_fill
  refine Fz.walk_G (l := PySem.Challenge.rw_fractiontrees_k45_triples) (n := 63) (k := 9) (x := "script") (F := Lw.F_law) rfl (by decide) rfl ⟨rfl, by decide, by decide⟩ (fun w h Y => PySem.W.kIn_of Y) ?F Lw.law_ok
  case F =>
    intro w mg fa h KX G hmg
    refine' Lw.law_mk (h := h) (Lw.tx_mk KX G ?z_abs ?z_bool ?z_divmod ?z_int ?z_isinstance ?z_len ?z_list ?z_max ?z_min ?z_range ?z_repr ?z_sum ?z_tuple ?i_gcd ?kg_MOST_NUMBER ?kg_MOST_TRIPLE ?a_is_whole ?l_is_whole ?c_is_whole ?q_is_whole ?a_is_tuple_of ?l_is_tuple_of ?c_is_tuple_of ?q_is_tuple_of ?a_lowest ?l_lowest ?c_lowest ?q_lowest ?a__law_pool ?l__law_pool ?c__law_pool ?q__law_pool ?a__law_take ?l__law_take ?c__law_take ?q__law_take ?a__law_frac ?l__law_frac ?c__law_frac ?q__law_frac ?a_is_between ?l_is_between ?c_is_between ?q_is_between ?a_less_by ?l_less_by ?c_less_by ?q_less_by ?a__law_small ?l__law_small ?c__law_small ?q__law_small ?a_is_given ?l_is_given ?c_is_given ?q_is_given ?a_triples_by ?l_triples_by ?c_triples_by ?q_triples_by ?a_is_above ?l_is_above ?c_is_above ?q_is_above ?a_is_part ?l_is_part ?c_is_part ?q_is_part ?a_check_part ?l_check_part ?c_check_part ?q_check_part ?a_triples ?l_triples ?c_triples ?q_triples ?a__law_right ?l__law_right ?c__law_right ?q__law_right ?a_law ?l_law ?c_law ?q_law) hmg
    (case z_abs => k_is)
    (case z_bool => k_is)
    (case z_divmod => k_is)
    (case z_int => k_is)
    (case z_isinstance => k_is)
    (case z_len => k_is)
    (case z_list => k_is)
    (case z_max => k_is)
    (case z_min => k_is)
    (case z_range => k_is)
    (case z_repr => k_is)
    (case z_sum => k_is)
    (case z_tuple => k_is)
    (case i_gcd => k_is)
    (case kg_MOST_NUMBER => k_is)
    (case kg_MOST_TRIPLE => k_is)
    (case a_is_whole => k_is)
    (case l_is_whole => k_is)
    (case c_is_whole => k_is)
    (case q_is_whole => k_is)
    (case a_is_tuple_of => k_is)
    (case l_is_tuple_of => k_is)
    (case c_is_tuple_of => k_is)
    (case q_is_tuple_of => k_is)
    (case a_lowest => k_is)
    (case l_lowest => k_is)
    (case c_lowest => k_is)
    (case q_lowest => k_is)
    (case a__law_pool => k_is)
    (case l__law_pool => k_is)
    (case c__law_pool => k_is)
    (case q__law_pool => k_is)
    (case a__law_take => k_is)
    (case l__law_take => k_is)
    (case c__law_take => k_is)
    (case q__law_take => k_is)
    (case a__law_frac => k_is)
    (case l__law_frac => k_is)
    (case c__law_frac => k_is)
    (case q__law_frac => k_is)
    (case a_is_between => k_is)
    (case l_is_between => k_is)
    (case c_is_between => k_is)
    (case q_is_between => k_is)
    (case a_less_by => k_is)
    (case l_less_by => k_is)
    (case c_less_by => k_is)
    (case q_less_by => k_is)
    (case a__law_small => k_is)
    (case l__law_small => k_is)
    (case c__law_small => k_is)
    (case q__law_small => k_is)
    (case a_is_given => k_is)
    (case l_is_given => k_is)
    (case c_is_given => k_is)
    (case q_is_given => k_is)
    (case a_triples_by => k_is)
    (case l_triples_by => k_is)
    (case c_triples_by => k_is)
    (case q_triples_by => k_is)
    (case a_is_above => k_is)
    (case l_is_above => k_is)
    (case c_is_above => k_is)
    (case q_is_above => k_is)
    (case a_is_part => k_is)
    (case l_is_part => k_is)
    (case c_is_part => k_is)
    (case q_is_part => k_is)
    (case a_check_part => k_is)
    (case l_check_part => k_is)
    (case c_check_part => k_is)
    (case q_check_part => k_is)
    (case a_triples => k_is)
    (case l_triples => k_is)
    (case c_triples => k_is)
    (case q_triples => k_is)
    (case a__law_right => k_is)
    (case l__law_right => k_is)
    (case c__law_right => k_is)
    (case q__law_right => k_is)
    (case a_law => k_is)
    (case l_law => k_is)
    (case c_law => k_is)
    (case q_law => k_is)

