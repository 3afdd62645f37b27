import PyProof.Rows.All
import Wide.All
import OpenK.AllK
import Wide.FinOn
import HandS.ForMost
import HandS.ForExc
import HandS.Wide
import HandS.Gcd
import HandS.Style
import HandS.TupAny
import HandS.IsInst
import HandS.Walk
import HandS.Flow
import HandS.CallSlots
import HandS.Nested
import HandS.Text
import HandS.RaiseMore
import HandS.Star
import HandS.Defaults
import KE.KTupSum
import HandS.TryOnly
import HandS.Conv
import PyProof.StrBlock2
import HandS.Zip
import HandS.EndTab
import KE.GoesMore
import KE.KRevSl
import KE.KMathGC
import PySem.Challenge.RW_fractiontrees_k71_whole_trains
set_option Elab.async false
set_option linter.all false
set_option maxRecDepth 100000
set_option maxHeartbeats 4000000
set_option exponentiation.threshold 5000
/-! Fz1: values without the heap, a store, what a run gives; how they lie in the abstract heap. -/
namespace Fz
open PySem PySem.Spec PyProof.Rows L2

/-- a value, deep; ref: a cell of the store; fn: a def or class of the module by its name -/
inductive D where
  | non | bl (b : Bool) | int (i : Int) | str (x : List Nat) | tup (ds : List D) | frl (ds : List D) | ref (n : Nat) | fn (x : Str)
  | lam (nm : Str)
  | lsv (ds : List D) | dct (ks : List Key) (ws : List D)
inductive Cell where
  | lst (ds : List D)
  | dk (kvs : List (Key × D))
abbrev Sto := List Cell
abbrev EnvD := List (Option D)
inductive R (α : Type) where
  | ok (a : α) (S : Sto)
  | exc (C : Str) (fs : List (Str × D)) (S : Sto)
  | stuck
def R.bind {α β : Type} (r : R α) (k : α → Sto → R β) : R β := match r with
  | .ok a S => k a S
  | .exc C fs S => .exc C fs S
  | .stuck => .stuck
@[simp] theorem bind_ok {α β : Type} (a : α) (S : Sto) (k : α → Sto → R β) : (R.ok a S).bind k = k a S := rfl
@[simp] theorem bind_exc {α β : Type} (C : Str) (fs : List (Str × D)) (S : Sto) (k : α → Sto → R β) : (R.exc C fs S).bind k = .exc C fs S := rfl
@[simp] theorem bind_stuck {α β : Type} (k : α → Sto → R β) : (R.stuck : R α).bind k = .stuck := rfl
theorem bind_assoc {α β γ : Type} (r : R α) (k : α → Sto → R β) (j : β → Sto → R γ) : (r.bind k).bind j = r.bind fun a S => (k a S).bind j := by cases r <;> rfl

/-- the written part and the module's names -/
structure Gm where
  K : PySem.W.Frag
  mg : Str → Option Value

/-- a list that is never written: the script, or one of the written part -/
def SqF (K : PySem.W.Frag) (H : Hp) (a : Addr) (xs : List V) : Prop :=
  (∃ o, H a = some (.frz o (.lst xs))) ∨
    ∃ (o : Obj) (its : Array Value) (n : Nat), K.lookup a = some o ∧ o.cls = .type "list" ∧ o.dict = none ∧ o.data = .seq its n ∧ its.size ≤ sizeLine ∧ Vals xs its.toList
theorem SqF.sql {K : PySem.W.Frag} {H : Hp} {a : Addr} {xs : List V} (h : SqF K H a xs) : SqL K H a xs := by
  rcases h with ⟨o, h⟩ | h
  · exact .inl (.inr ⟨o, h⟩)
  · exact .inr h

/-- the function object at f, made by a lambda without captured names; its code object at c' -/
def LamO (f : Addr) (q : Str) (ps : Arguments) (b : Expr) (sc : Scope) (c' : Addr) : HO := .ext fun h => ∃ (od : Option Addr) (sl : Array (Option Value)) (pm ctv : Value), h.get? f = some (⟨.type "function", od, .func (PySem.W.kla_fn "<lambda>" q ps b sc [] pm (.ref c') ctv), sl⟩ : Obj)
/-- the lambda that a def hands to another one in its last row: return f(.., lambda ..) -/
def lamOf (body : List Stmt) : Option (Arguments × Expr × Scope) := match body.getLast? with
  | some (.Return (some (.Call _ args _ _)) _) => (match args.getLast? with
    | some (.Lambda ps b sc _) => some (ps, b, sc)
    | _ => none)
  | _ => none
def lamQ (nm : Str) : Str := nm ++ ".<locals>." ++ "<lambda>"
/-- P is the table of code objects of the def nm, which hands on a lambda -/
def TabAt (G : Gm) (nm : Str) (P : Addr) : Prop := ∃ (f c : Addr) (oc : Value) (od : Option Addr) (osl : Array (Option Value)) (fd : FuncData) (bd : List Stmt), G.mg nm = some (.ref f) ∧ G.K.lookup f = some ⟨oc, od, .func fd, osl⟩ ∧ fd.code = .ref c ∧ fd.qualname = nm ∧ fd.body = .stmts bd ∧ (lamOf bd).isSome = true ∧
  ∀ h : Heap, G.K.In h → PySem.W.CodeHd h c P
/-- ps, b, sc: the lambda in the def nm -/
def LamAt (G : Gm) (nm : Str) (ps : Arguments) (b : Expr) (sc : Scope) : Prop := ∃ (f : Addr) (oc : Value) (od : Option Addr) (osl : Array (Option Value)) (fd : FuncData) (bd : List Stmt), G.mg nm = some (.ref f) ∧ G.K.lookup f = some ⟨oc, od, .func fd, osl⟩ ∧ fd.body = .stmts bd ∧ lamOf bd = some (ps, b, sc)
mutual
def RV (G : Gm) (ι : List Addr) (H : Hp) : D → V → Prop
  | .non, v => v = .non
  | .bl b, v => v = .bl b
  | .int i, v => v = .int i
  | .str x, v => v = .str ⟨x.toArray⟩
  | .tup ds, v => ∃ a vs, v = .ref a ∧ SqT G.K H a vs ∧ RVs G ι H ds vs
  | .frl ds, v => ∃ a vs, v = .ref a ∧ SqF G.K H a vs ∧ RVs G ι H ds vs
  | .ref n, v => ∃ a, ι[n]? = some a ∧ v = .ref a
  | .fn x, v => ∃ a, G.mg x = some (.ref a) ∧ v = .ref a
  | .lam nm, v => ∃ f c' ps b sc, v = .ref f ∧ LamAt G nm ps b sc ∧ H f = some (LamO f (lamQ nm) ps b sc c') ∧ H c' = some (LamX.CodeO c' (lamQ nm))
  | .lsv _, _ => False
  | .dct _ _, _ => False
def RVs (G : Gm) (ι : List Addr) (H : Hp) : List D → List V → Prop
  | [], vs => vs = []
  | d :: ds, vs => ∃ v vr, vs = v :: vr ∧ RV G ι H d v ∧ RVs G ι H ds vr
end

/-- what a step may do to what was there -/
structure Ext0 (ι : List Addr) (H : Hp) (ι' : List Addr) (H' : Hp) : Prop where
  pre : ∀ (i : Nat) (a : Addr), ι[i]? = some a → ι'[i]? = some a
  tups : ∀ (a : Addr) (xs : List V), H a = some (.tup xs) → H' a = some (.tup xs)
  frzs : ∀ (a : Addr) (o : Obj) (u : HO), H a = some (.frz o u) → H' a = some (.frz o u)
  exts : ∀ (a : Addr) (f : Heap → Prop), H a = some (.ext f) → H' a = some (.ext f)
structure Ext (ι : List Addr) (H : Hp) (ι' : List Addr) (H' : Hp) : Prop extends Ext0 ι H ι' H' where
  keep : ∀ (a : Addr) (o : HO), H a = some o → (∀ i : Nat, ι[i]? ≠ some a) → (∀ t, o ≠ .tbl t) → H' a = some o
  alive : ∀ (a : Addr) (o : HO), H a = some o → (∀ i : Nat, ι[i]? ≠ some a) → ∃ o', H' a = some o'
  new : ∀ (i : Nat) (a : Addr), ι'[i]? = some a → (∃ j : Nat, ι[j]? = some a) ∨ H a = none
theorem Ext.refl (ι : List Addr) (H : Hp) : Ext ι H ι H := ⟨⟨fun _ _ e => e, fun _ _ e => e, fun _ _ _ e => e, fun _ _ e => e⟩, fun _ _ e _ _ => e, fun _ o e _ => ⟨o, e⟩, fun i _ e => .inl ⟨i, e⟩⟩
theorem Ext.back {ι ι1 ι2 : List Addr} {H H1 H2 : Hp} (x : Ext ι H ι1 H1) {a : Addr} (h : H1 a = none) : (∃ j : Nat, ι[j]? = some a) ∨ H a = none := by
  by_cases q : ∃ j : Nat, ι[j]? = some a
  · exact .inl q
  · cases e : H a with
    | none => exact .inr rfl
    | some o =>
      obtain ⟨o', this⟩ := x.alive a o e (fun i z => q ⟨i, z⟩)
      rw [h] at this; cases this
theorem Ext.out {ι ι1 : List Addr} {H H1 : Hp} (x : Ext ι H ι1 H1) {a : Addr} {o : HO} (h : H a = some o) (n : ∀ i : Nat, ι[i]? ≠ some a) : ∀ i : Nat, ι1[i]? ≠ some a := fun i e => by
  rcases x.new i a e with ⟨j, q⟩ | q
  · exact n j q
  · rw [h] at q; cases q
theorem Ext.trans {ι ι1 ι2 : List Addr} {H H1 H2 : Hp} (a : Ext ι H ι1 H1) (b : Ext ι1 H1 ι2 H2) : Ext ι H ι2 H2 :=
  ⟨⟨fun i x e => b.pre i x (a.pre i x e), fun x xs e => b.tups x xs (a.tups x xs e), fun x o u e => b.frzs x o u (a.frzs x o u e), fun x f e => b.exts x f (a.exts x f e)⟩,
    fun x o e n t => b.keep x o (a.keep x o e n t) (a.out e n) t, fun x o e n => by obtain ⟨o', z⟩ := a.alive x o e n; exact b.alive x o' z (a.out e n), fun i x e => by
      rcases b.new i x e with ⟨j, q⟩ | q
      · exact a.new j x q
      · exact a.back (ι2 := ι2) (H2 := H2) q⟩

section
variable {G : Gm} {ι ι' : List Addr} {H H' : Hp}
theorem sqT_ext (e : Ext0 ι H ι' H') {a : Addr} {vs : List V} (h : SqT G.K H a vs) : SqT G.K H' a vs := by
  rcases h with (h | ⟨o, h⟩) | h
  · exact .inl (.inl (e.tups _ _ h))
  · exact .inl (.inr ⟨o, e.frzs _ _ _ h⟩)
  · exact .inr h
theorem sqF_ext (e : Ext0 ι H ι' H') {a : Addr} {vs : List V} (h : SqF G.K H a vs) : SqF G.K H' a vs := by
  rcases h with ⟨o, h⟩ | h
  · exact .inl ⟨o, e.frzs _ _ _ h⟩
  · exact .inr h
mutual
theorem RV.ext0 (e : Ext0 ι H ι' H') : ∀ (d : D) (v : V), RV G ι H d v → RV G ι' H' d v
  | .non, v, h => h
  | .bl b, v, h => h
  | .int i, v, h => h
  | .str x, v, h => h
  | .tup ds, v, h => by
    obtain ⟨a, vs, rfl, h1, h2⟩ := h
    exact ⟨a, vs, rfl, sqT_ext e h1, RVs.ext0 e ds vs h2⟩
  | .frl ds, v, h => by
    obtain ⟨a, vs, rfl, h1, h2⟩ := h
    exact ⟨a, vs, rfl, sqF_ext e h1, RVs.ext0 e ds vs h2⟩
  | .ref n, v, h => by
    obtain ⟨a, h1, rfl⟩ := h
    exact ⟨a, e.pre _ _ h1, rfl⟩
  | .fn x, v, h => h
  | .lam q, v, h => by
    obtain ⟨f, c', ps, b, sc, rfl, h0, h1, h2⟩ := h
    exact ⟨f, c', ps, b, sc, rfl, h0, e.exts _ _ h1, e.exts _ _ h2⟩
  | .lsv _, v, h => h
  | .dct _ _, v, h => h
theorem RVs.ext0 (e : Ext0 ι H ι' H') : ∀ (ds : List D) (vs : List V), RVs G ι H ds vs → RVs G ι' H' ds vs
  | [], vs, h => h
  | d :: ds, vs, h => by
    obtain ⟨v, vr, rfl, h1, h2⟩ := h
    exact ⟨v, vr, rfl, RV.ext0 e d v h1, RVs.ext0 e ds vr h2⟩
end
theorem RV.ext (e : Ext ι H ι' H') (d : D) (v : V) (h : RV G ι H d v) : RV G ι' H' d v := RV.ext0 e.toExt0 d v h
theorem RVs.ext (e : Ext ι H ι' H') (ds : List D) (vs : List V) (h : RVs G ι H ds vs) : RVs G ι' H' ds vs := RVs.ext0 e.toExt0 ds vs h
theorem RVs.length : ∀ {ds : List D} {vs : List V}, RVs G ι H ds vs → ds.length = vs.length
  | [], vs, h => by have e : vs = [] := h; subst e; rfl
  | d :: ds, vs, h => by
    obtain ⟨v, vr, rfl, h1, h2⟩ := h
    exact congrArg (· + 1) (RVs.length h2)
theorem RVs.get : ∀ {ds : List D} {vs : List V} {i : Nat} {d : D}, RVs G ι H ds vs → ds[i]? = some d → ∃ v, vs[i]? = some v ∧ RV G ι H d v
  | [], vs, i, d, h, e => by simp at e
  | d :: ds, vs, 0, d', h, e => by
    obtain ⟨v, vr, rfl, h1, h2⟩ := h
    simp at e; subst e
    exact ⟨v, rfl, h1⟩
  | d :: ds, vs, i + 1, d', h, e => by
    obtain ⟨v, vr, rfl, h1, h2⟩ := h
    obtain ⟨u, h3, h4⟩ := RVs.get (i := i) h2 (by simpa using e)
    exact ⟨u, by simpa using h3, h4⟩
theorem RVs.append : ∀ {ds es : List D} {vs us : List V}, RVs G ι H ds vs → RVs G ι H es us → RVs G ι H (ds ++ es) (vs ++ us)
  | [], es, vs, us, h, h' => by have e : vs = [] := h; subst e; exact h'
  | d :: ds, es, vs, us, h, h' => by
    obtain ⟨v, vr, rfl, h1, h2⟩ := h
    exact ⟨v, vr ++ us, rfl, h1, RVs.append h2 h'⟩
theorem RVs.set : ∀ {ds : List D} {vs : List V} {d : D} {v : V} (i : Nat), RVs G ι H ds vs → RV G ι H d v → RVs G ι H (ds.set i d) (vs.set i v)
  | [], vs, d, v, i, h, r => by have e : vs = [] := h; subst e; cases i <;> exact rfl
  | d :: ds, vs, d', v', 0, h, r => by
    obtain ⟨v, vr, rfl, h1, h2⟩ := h
    exact ⟨v', vr, rfl, r, h2⟩
  | d :: ds, vs, d', v', i + 1, h, r => by
    obtain ⟨v, vr, rfl, h1, h2⟩ := h
    exact ⟨v, vr.set i v', rfl, h1, RVs.set i h2 r⟩
theorem RVs.take : ∀ {ds : List D} {vs : List V} (n : Nat), RVs G ι H ds vs → RVs G ι H (ds.take n) (vs.take n)
  | ds, vs, 0, h => by simp; exact rfl
  | [], vs, n + 1, h => by have e : vs = [] := h; subst e; exact rfl
  | d :: ds, vs, n + 1, h => by
    obtain ⟨v, vr, rfl, h1, h2⟩ := h
    exact ⟨v, vr.take n, rfl, h1, RVs.take n h2⟩
theorem RVs.drop : ∀ {ds : List D} {vs : List V} (n : Nat), RVs G ι H ds vs → RVs G ι H (ds.drop n) (vs.drop n)
  | ds, vs, 0, h => h
  | [], vs, n + 1, h => by have e : vs = [] := h; subst e; exact rfl
  | d :: ds, vs, n + 1, h => by
    obtain ⟨v, vr, rfl, h1, h2⟩ := h
    exact RVs.drop n h2
theorem RVs.reverse : ∀ {ds : List D} {vs : List V}, RVs G ι H ds vs → RVs G ι H ds.reverse vs.reverse
  | [], vs, h => by have e : vs = [] := h; subst e; exact rfl
  | d :: ds, vs, h => by
    obtain ⟨v, vr, rfl, h1, h2⟩ := h
    rw [List.reverse_cons, List.reverse_cons]
    exact RVs.append (RVs.reverse h2) ⟨v, [], rfl, h1, rfl⟩
theorem RVs.ints : ∀ (ns : List Int), RVs G ι H (ns.map D.int) (ns.map V.int)
  | [] => rfl
  | n :: ns => ⟨.int n, ns.map V.int, rfl, rfl, RVs.ints ns⟩
theorem RVs.one {d : D} {v : V} (h : RV G ι H d v) : RVs G ι H [d] [v] := ⟨v, [], rfl, h, rfl⟩
theorem RVs.two {d e : D} {v u : V} (h : RV G ι H d v) (h' : RV G ι H e u) : RVs G ι H [d, e] [v, u] := ⟨v, [u], rfl, h, RVs.one h'⟩
theorem RVs.nil_of {ds : List D} (h : RVs G ι H ds []) : ds = [] := by
  cases ds with
  | nil => rfl
  | cons d ds => obtain ⟨v, vr, e, _⟩ := h; cases e
end

/-! ### the store -/
def RKV (G : Gm) (ι : List Addr) (H : Hp) : List (Key × D) → List (Key × V) → Prop
  | [], vs => vs = []
  | (k, d) :: r, vs => ∃ v vr, vs = (k, v) :: vr ∧ RV G ι H d v ∧ RKV G ι H r vr
def CellOk (G : Gm) (ι : List Addr) (H : Hp) (a : Addr) : Cell → Prop
  | .lst ds => ∃ vs, H a = some (.lst vs) ∧ RVs G ι H ds vs
  | .dk kvs => ∃ vs, H a = some (.dK vs) ∧ RKV G ι H kvs vs
structure Rep (G : Gm) (ι : List Addr) (H : Hp) (S : Sto) : Prop where
  len : ι.length = S.length
  inj : ∀ (i j : Nat) (a : Addr), ι[i]? = some a → ι[j]? = some a → i = j
  cell : ∀ (i : Nat) (c : Cell) (a : Addr), S[i]? = some c → ι[i]? = some a → CellOk G ι H a c
  tabs : ∀ (nm : Str) (P : Addr), TabAt G nm P → LamX.TabS H P (lamQ nm)
  tinj : ∀ (nm nm' : Str) (P : Addr), TabAt G nm P → TabAt G nm' P → nm = nm'
/-- a table stays where its own object does -/
theorem tabS_ext {ι ι' : List Addr} {H H' : Hp} {P : Addr} {q : Str} (e : Ext0 ι H ι' H') (h : LamX.TabS H P q) (k : H' P = H P) : LamX.TabS H' P q := by
  obtain ⟨ps, z1, z2, z3⟩ := h
  exact ⟨ps, k.trans z1, z2, fun pos cv hc => by obtain ⟨c, y1, y2⟩ := z3 pos cv hc; exact ⟨c, y1, e.exts _ _ y2⟩⟩
theorem tabS_at {H : Hp} {P : Addr} {q : Str} (h : LamX.TabS H P q) : ∃ ps, H P = some (.tbl ps) := by
  obtain ⟨ps, z, _⟩ := h
  exact ⟨ps, z⟩
section
variable {G : Gm} {ι ι' : List Addr} {H H' : Hp} {S S' : Sto}
theorem RKV.ext (e : Ext0 ι H ι' H') : ∀ (ds : List (Key × D)) (vs : List (Key × V)), RKV G ι H ds vs → RKV G ι' H' ds vs
  | [], vs, h => h
  | (k, d) :: ds, vs, h => by
    obtain ⟨v, vr, rfl, h1, h2⟩ := h
    exact ⟨v, vr, rfl, RV.ext0 e d v h1, RKV.ext e ds vr h2⟩
theorem CellOk.live {a : Addr} {c : Cell} (h : CellOk G ι H a c) : ∃ o, H a = some o ∧ (∀ xs, o ≠ .tup xs) ∧ (∀ o' u, o ≠ .frz o' u) ∧ (∀ f, o ≠ .ext f) ∧ ∀ t, o ≠ .tbl t := by
  cases c with
  | lst ds => obtain ⟨vs, h, _⟩ := h; exact ⟨_, h, fun _ e => HO.noConfusion e, fun _ _ e => HO.noConfusion e, fun _ e => HO.noConfusion e, fun _ e => HO.noConfusion e⟩
  | dk kvs => obtain ⟨vs, h, _⟩ := h; exact ⟨_, h, fun _ e => HO.noConfusion e, fun _ _ e => HO.noConfusion e, fun _ e => HO.noConfusion e, fun _ e => HO.noConfusion e⟩
theorem Rep.at (r : Rep G ι H S) {i : Nat} {c : Cell} (h : S[i]? = some c) : ∃ a, ι[i]? = some a ∧ CellOk G ι H a c := by
  have hi : i < S.length := by
    rcases Nat.lt_or_ge i S.length with h' | h'
    · exact h'
    · rw [List.getElem?_eq_none h'] at h; cases h
  have hi' : i < ι.length := by rw [r.len]; exact hi
  exact ⟨ι[i], by simp [hi'], r.cell i c _ h (by simp [hi'])⟩
theorem Rep.live (r : Rep G ι H S) {i : Nat} {a : Addr} (h : ι[i]? = some a) : ∃ o, H a = some o ∧ (∀ xs, o ≠ .tup xs) ∧ (∀ o' u, o ≠ .frz o' u) ∧ (∀ f, o ≠ .ext f) ∧ ∀ t, o ≠ .tbl t := by
  have hi : i < ι.length := by
    rcases Nat.lt_or_ge i ι.length with h' | h'
    · exact h'
    · rw [List.getElem?_eq_none h'] at h; cases h
  have hi' : i < S.length := by rw [← r.len]; exact hi
  exact (r.cell i S[i] a (by simp [hi']) h).live
theorem Rep.fresh (r : Rep G ι H S) {p : Addr} (hp : H p = none) : ∀ i : Nat, ι[i]? ≠ some p := fun i e => by
  obtain ⟨o, h, _⟩ := r.live e
  rw [hp] at h; cases h
/-- what does not touch the cells, the tuples and the frozen -/
theorem CellOk.ext (e : Ext0 ι H ι' H') {a : Addr} {c : Cell} (h : CellOk G ι H a c) (k : H' a = H a) : CellOk G ι' H' a c := by
  cases c with
  | lst ds => obtain ⟨vs, h1, h2⟩ := h; exact ⟨vs, k.trans h1, RVs.ext0 e _ _ h2⟩
  | dk kvs => obtain ⟨vs, h1, h2⟩ := h; exact ⟨vs, k.trans h1, RKV.ext e _ _ h2⟩
/-- something new that is no cell is laid at p -/
theorem ext_upd {p : Addr} {o : HO} (hp : H p = none) : Ext ι H ι (upd H p o) :=
  ⟨⟨fun _ _ e => e, fun a xs e => by rw [upd_ne (ne_of_none e hp)]; exact e, fun a o u e => by rw [upd_ne (ne_of_none e hp)]; exact e, fun a f e => by rw [upd_ne (ne_of_none e hp)]; exact e⟩, fun a o e _ _ => by rw [upd_ne (ne_of_none e hp)]; exact e, fun a o e _ => ⟨o, by rw [upd_ne (ne_of_none e hp)]; exact e⟩, fun i _ e => .inl ⟨i, e⟩⟩
theorem Rep.other (r : Rep G ι H S) {p : Addr} {o : HO} (hp : H p = none) : Rep G ι (upd H p o) S :=
  ⟨r.len, r.inj, fun i c a h1 h2 => (r.cell i c a h1 h2).ext (ext_upd hp).toExt0 (upd_ne (fun z => r.fresh hp i (z ▸ h2))), fun nm P hP => tabS_ext (ext_upd (ι := ι) hp).toExt0 (r.tabs nm P hP) (upd_ne fun z => by obtain ⟨t, y⟩ := tabS_at (r.tabs nm P hP); rw [z, hp] at y; cases y), r.tinj⟩
theorem get_push {p : Addr} {i : Nat} {a : Addr} (h : (ι ++ [p])[i]? = some a) : ι[i]? = some a ∨ (i = ι.length ∧ a = p) := by
  rw [List.getElem?_append] at h
  split at h
  · exact .inl h
  · rename_i hi
    have : i - ι.length = 0 := by
      rcases Nat.eq_zero_or_pos (i - ι.length) with z | z
      · exact z
      · rw [List.getElem?_eq_none (by show 1 ≤ _; exact z)] at h; cases h
    rw [this] at h
    simp at h
    exact .inr ⟨by omega, h.symm⟩
theorem ext_push {p : Addr} {o : HO} (hp : H p = none) : Ext ι H (ι ++ [p]) (upd H p o) :=
  ⟨⟨fun i a e => by
    have hi : i < ι.length := by
      rcases Nat.lt_or_ge i ι.length with h' | h'
      · exact h'
      · rw [List.getElem?_eq_none h'] at e; cases e
    rw [List.getElem?_append_left hi]; exact e, (ext_upd (ι := ι) hp).tups, (ext_upd (ι := ι) hp).frzs, (ext_upd (ι := ι) hp).exts⟩, (ext_upd (ι := ι) hp).keep, (ext_upd (ι := ι) hp).alive, fun i a e => by
      rcases get_push e with z | ⟨_, z⟩
      · exact .inl ⟨i, z⟩
      · exact .inr (z ▸ hp)⟩
theorem Rep.push (r : Rep G ι H S) {p : Addr} {o : HO} {c : Cell} (hp : H p = none) (hc : CellOk G (ι ++ [p]) (upd H p o) p c) : Rep G (ι ++ [p]) (upd H p o) (S ++ [c]) := by
  have e1 : ∀ (i : Nat) (a : Addr), (ι ++ [p])[i]? = some a → ι[i]? = some a ∨ (i = ι.length ∧ a = p) := fun i a h => get_push h
  refine ⟨by simp [r.len], fun i j a h1 h2 => ?_, fun i d a h1 h2 => ?_, fun nm P hP => tabS_ext (ext_upd (ι := ι) hp).toExt0 (r.tabs nm P hP) (upd_ne fun z => by obtain ⟨t, y⟩ := tabS_at (r.tabs nm P hP); rw [z, hp] at y; cases y), r.tinj⟩
  · rcases e1 i a h1 with z | ⟨z1, z2⟩ <;> rcases e1 j a h2 with y | ⟨y1, y2⟩
    · exact r.inj i j a z y
    · exact absurd (y2 ▸ z) (r.fresh hp i)
    · exact absurd (z2 ▸ y) (r.fresh hp j)
    · omega
  · rcases e1 i a h2 with z | ⟨z1, z2⟩
    · have hi : i < S.length := by
        rw [← r.len]
        rcases Nat.lt_or_ge i ι.length with h' | h'
        · exact h'
        · rw [List.getElem?_eq_none h'] at z; cases z
      rw [List.getElem?_append_left hi] at h1
      exact (r.cell i d a h1 z).ext (ext_push hp).toExt0 (upd_ne fun q => r.fresh hp i (q ▸ z))
    · subst z2
      rw [z1, r.len] at h1
      simp at h1
      subst h1
      exact hc
/-- cell i is written -/
theorem ext_set (r : Rep G ι H S) {i : Nat} {a : Addr} {o : HO} (ha : ι[i]? = some a) : Ext ι H ι (upd H a o) := by
  obtain ⟨u, hu, h1, h2, h3, _⟩ := r.live ha
  exact ⟨⟨fun _ _ e => e, fun b xs e => by rw [upd_ne (fun z => by rw [z, hu] at e; exact h1 xs (Option.some.inj e))]; exact e,
    fun b o' u' e => by rw [upd_ne (fun z => by rw [z, hu] at e; exact h2 o' u' (Option.some.inj e))]; exact e,
    fun b f e => by rw [upd_ne (fun z => by rw [z, hu] at e; exact h3 f (Option.some.inj e))]; exact e⟩, fun b o' e n _ => by rw [upd_ne (fun z => n i (by rw [z]; exact ha))]; exact e, fun b o' e n => ⟨o', by rw [upd_ne (fun z => n i (by rw [z]; exact ha))]; exact e⟩, fun i _ e => .inl ⟨i, e⟩⟩
theorem Rep.set (r : Rep G ι H S) {i : Nat} {a : Addr} {o : HO} {c : Cell} (ha : ι[i]? = some a) (hc : CellOk G ι (upd H a o) a c) : Rep G ι (upd H a o) (S.set i c) := by
  refine ⟨by simp [r.len], r.inj, fun j d b h1 h2 => ?_, fun nm P hP => tabS_ext (ext_set (o := o) r ha).toExt0 (r.tabs nm P hP) (upd_ne fun z => by obtain ⟨t, y⟩ := tabS_at (r.tabs nm P hP); obtain ⟨u, hu, _, _, _, h4⟩ := r.live ha; rw [z, hu] at y; exact h4 t (Option.some.inj y)), r.tinj⟩
  by_cases hj : i = j
  · subst hj
    rw [ha] at h2
    have e : a = b := Option.some.inj h2
    subst e
    have hi : i < S.length := by
      rcases Nat.lt_or_ge i S.length with h' | h'
      · exact h'
      · rw [List.getElem?_eq_none (by simpa using h')] at h1; cases h1
    rw [List.getElem?_set_self hi] at h1
    cases h1
    exact hc
  · rw [List.getElem?_set_ne hj] at h1
    exact (r.cell j d b h1 h2).ext (ext_set r ha).toExt0 (upd_ne fun z => hj (r.inj i j a ha (z ▸ h2)))
/-- a list that is no cell is written -/
theorem ext0_off {p : Addr} {vs us : List V} (hp : H p = some (.lst vs)) : Ext0 ι H ι (upd H p (.lst us)) :=
  ⟨fun _ _ e => e, fun b xs e => by rw [upd_ne (fun z => by rw [z, hp] at e; cases e)]; exact e, fun b o u e => by rw [upd_ne (fun z => by rw [z, hp] at e; cases e)]; exact e, fun b f e => by rw [upd_ne (fun z => by rw [z, hp] at e; cases e)]; exact e⟩
theorem Rep.off (r : Rep G ι H S) {p : Addr} {vs us : List V} (hp : H p = some (.lst vs)) (n : ∀ i : Nat, ι[i]? ≠ some p) : Rep G ι (upd H p (.lst us)) S :=
  ⟨r.len, r.inj, fun i c a h1 h2 => (r.cell i c a h1 h2).ext (ext0_off hp) (upd_ne fun z => n i (by rw [← z]; exact h2)), fun nm P hP => tabS_ext (ι := ι) (ext0_off hp) (r.tabs nm P hP) (upd_ne fun z => by obtain ⟨t, y⟩ := tabS_at (r.tabs nm P hP); rw [z, hp] at y; cases y), r.tinj⟩
/-- .. it becomes a cell -/
theorem Rep.take_in (r : Rep G ι H S) {p : Addr} {c : Cell} (n : ∀ i : Nat, ι[i]? ≠ some p) (hc : CellOk G (ι ++ [p]) H p c) : Rep G (ι ++ [p]) H (S ++ [c]) := by
  have x0 : Ext0 ι H (ι ++ [p]) H := ⟨fun i a e => by
    have hi : i < ι.length := by
      rcases Nat.lt_or_ge i ι.length with h' | h'
      · exact h'
      · rw [List.getElem?_eq_none h'] at e; cases e
    rw [List.getElem?_append_left hi]; exact e, fun _ _ e => e, fun _ _ _ e => e, fun _ _ e => e⟩
  refine ⟨by simp [r.len], fun i j a h1 h2 => ?_, fun i d a h1 h2 => ?_, r.tabs, r.tinj⟩
  · rcases get_push h1 with z | ⟨z1, z2⟩ <;> rcases get_push h2 with y | ⟨y1, y2⟩
    · exact r.inj i j a z y
    · exact absurd (y2 ▸ z) (n i)
    · exact absurd (z2 ▸ y) (n j)
    · omega
  · rcases get_push h2 with z | ⟨z1, z2⟩
    · have hi : i < S.length := by
        rw [← r.len]
        rcases Nat.lt_or_ge i ι.length with h' | h'
        · exact h'
        · rw [List.getElem?_eq_none h'] at z; cases z
      rw [List.getElem?_append_left hi] at h1
      exact (r.cell i d a h1 z).ext x0 rfl
    · subst z2
      rw [z1, r.len] at h1
      simp at h1
      subst h1
      exact hc
/-- the last cells are forgotten -/
theorem Rep.take (r : Rep G ι H S) (n : Nat) (h : ∀ (i : Nat) (c : Cell) (a : Addr), (S.take n)[i]? = some c → ι[i]? = some a → CellOk G (ι.take n) H a c) : Rep G (ι.take n) H (S.take n) := by
  have e1 : ∀ (i : Nat) (a : Addr), (ι.take n)[i]? = some a → ι[i]? = some a := fun i a h => by
    rw [List.getElem?_take] at h
    split at h
    · exact h
    · cases h
  exact ⟨by simp [r.len], fun i j a h1 h2 => r.inj i j a (e1 i a h1) (e1 j a h2), fun i c a h1 h2 => h i c a h1 (e1 i a h2), r.tabs, r.tinj⟩
end

/-! ### the frame -/
structure EnvR (G : Gm) (ι : List Addr) (H : Hp) (env : EnvD) (σ : L2.St) : Prop where
  len : env.length = σ.length
  at_ : ∀ (i : Nat) (d : D), env[i]? = some (some d) → ∃ v, σ[i]? = some (some v) ∧ RV G ι H d v
section
variable {G : Gm} {ι ι' : List Addr} {H H' : Hp} {env : EnvD} {σ : L2.St}
theorem EnvR.ext0 (e : Ext0 ι H ι' H') (h : EnvR G ι H env σ) : EnvR G ι' H' env σ :=
  ⟨h.len, fun i d q => let ⟨v, h1, h2⟩ := h.at_ i d q; ⟨v, h1, RV.ext0 e d v h2⟩⟩
theorem EnvR.ext (e : Ext ι H ι' H') (h : EnvR G ι H env σ) : EnvR G ι' H' env σ := EnvR.ext0 e.toExt0 h
theorem EnvR.set (h : EnvR G ι H env σ) (i : Nat) {d : D} {v : V} (r : RV G ι H d v) : EnvR G ι H (env.set i (some d)) (σ.set i (some v)) := by
  refine ⟨by simp [h.len], fun j d' q => ?_⟩
  by_cases hj : i = j
  · subst hj
    have hi : i < env.length := by
      rcases Nat.lt_or_ge i env.length with h' | h'
      · exact h'
      · rw [List.getElem?_eq_none (by simpa using h')] at q; cases q
    rw [List.getElem?_set_self hi] at q
    cases q
    exact ⟨v, by rw [List.getElem?_set_self (by rw [← h.len]; exact hi)], r⟩
  · rw [List.getElem?_set_ne hj] at q
    obtain ⟨u, h1, h2⟩ := h.at_ j d' q
    exact ⟨u, by rw [List.getElem?_set_ne hj]; exact h1, h2⟩
end
end Fz

/-! Fz2: what a run's result asks of the abstract heap; expressions, tests, arguments. -/
namespace Fz
open PySem PySem.Spec PyProof.Rows L2

abbrev WP := Value → Option Addr → Hp → Prop
/-- an exception's fields at its dict -/
def RF (G : Gm) (ι : List Addr) (H : Hp) : List (Str × D) → List (Str × V) → Prop
  | [], vs => vs = []
  | (x, d) :: r, vs => ∃ v vr, vs = (x, v) :: vr ∧ RV G ι H d v ∧ RF G ι H r vr
def Post (G : Gm) {α β : Type} (Rel : List Addr → Hp → α → β → Prop) (W : WP) (ι : List Addr) (H : Hp) (r : R α) (Q : β → Hp → Prop) : Prop := match r with
  | .ok d S' => ∀ v H' ι', Ext ι H ι' H' → Rep G ι' H' S' → Rel ι' H' d v → Q v H'
  | .exc C fs S' => ∀ c dx fv H' ι', G.mg C = some (.ref c) → Ext ι H ι' H' → Rep G ι' H' S' → H' dx = some (.xd fv) → RF G ι' H' fs fv → W (.ref c) (some dx) H'
  | .stuck => False
section
variable {G : Gm} {α β α' β' : Type} {Rel : List Addr → Hp → α → β → Prop} {Rel' : List Addr → Hp → α' → β' → Prop} {W : WP} {ι ι' : List Addr} {H H' : Hp}
theorem Post.imp {r : R α} {Q Q' : β → Hp → Prop} (h : Post G Rel W ι H r Q) (k : ∀ v H', Q v H' → Q' v H') : Post G Rel W ι H r Q' := by
  cases r with
  | ok d S' => exact fun v H' ι' e p q => k v H' (h v H' ι' e p q)
  | exc C fs S' => exact h
  | stuck => exact h
theorem Post.mono {r : R α} {Q : β → Hp → Prop} (e : Ext ι H ι' H') (h : Post G Rel W ι H r Q) : Post G Rel W ι' H' r Q := by
  cases r with
  | ok d S' => exact fun v H2 ι2 e2 p q => h v H2 ι2 (e.trans e2) p q
  | exc C fs S' => exact fun c dx fv H2 ι2 m e2 p q z => h c dx fv H2 ι2 m (e.trans e2) p q z
  | stuck => exact h
theorem Post.bind {r : R α} {k : α → Sto → R α'} {Q : β' → Hp → Prop} (h : Post G Rel' W ι H (r.bind k) Q) :
    Post G Rel W ι H r (fun v H' => ∃ d S' ι', Ext ι H ι' H' ∧ Rep G ι' H' S' ∧ Rel ι' H' d v ∧ Post G Rel' W ι' H' (k d S') Q) := by
  cases r with
  | ok d S' => exact fun v H' ι' e p q => ⟨d, S', ι', e, p, q, Post.mono e h⟩
  | exc C fs S' => exact h
  | stuck => exact h
theorem Post.wp {r : R α} {W' : WP} {Q : β → Hp → Prop} (h : Post G Rel W ι H r Q) (k : ∀ c d H', W c d H' → W' c d H') : Post G Rel W' ι H r Q := by
  cases r with
  | ok d S' => exact h
  | exc C fs S' => exact fun c dx fv H' ι' m e p q z => k _ _ _ (h c dx fv H' ι' m e p q z)
  | stuck => exact h
end
abbrev E := EnvD → Sto → R D
abbrev T := EnvD → Sto → R Bool
abbrev As := EnvD → Sto → R (List D)
def RB (_ : List Addr) (_ : Hp) (b c : Bool) : Prop := b = c
def gm (X : Cx) : Gm := ⟨X.K, X.mg⟩
/-- a wish at the slots -/
abbrev WS := Value → Option Addr → L2.St → Hp → Prop
def tE (G : Gm) (W : WS) (f : E) : TE := fun σ H Q => ∃ ι env S, Rep G ι H S ∧ EnvR G ι H env σ ∧ Post G (RV G) (fun c d H' => W c d σ H') ι H (f env S) Q
def tT (G : Gm) (W : WS) (f : T) : TT := fun σ H Q => ∃ ι env S, Rep G ι H S ∧ EnvR G ι H env σ ∧ Post G RB (fun c d H' => W c d σ H') ι H (f env S) Q
def tA (G : Gm) (W : WS) (f : As) : TA := fun σ H Q => ∃ ι env S, Rep G ι H S ∧ EnvR G ι H env σ ∧ Post G (RVs G) (fun c d H' => W c d σ H') ι H (f env S) Q
/-- e does as f -/
structure FE (X : Cx) (W : WS) (e : Expr) (f : E) : Prop where
  pe : PE X e (tE (gm X) W f)
structure FT (X : Cx) (W : WS) (e : Expr) (f : T) : Prop where
  pt : PT X e (tT (gm X) W f)
structure FA (X : Cx) (W : WS) (es : List Expr) (f : As) : Prop where
  pa : PA X es (tA (gm X) W f)
section
variable {X : Cx} {t t' : TE} {e : Expr}
theorem PE.weak (h : PE X e t) (k : ∀ σ H Q, t' σ H Q → t σ H Q) : PE X e t' := ⟨fun pins s σ H Q I q => h.run pins s σ H Q I (k σ H Q q)⟩
theorem PT.weak {t t' : TT} (h : PT X e t) (k : ∀ σ H Q, t' σ H Q → t σ H Q) : PT X e t' := ⟨fun pins s σ H Q I q => h.run pins s σ H Q I (k σ H Q q)⟩
theorem PW.weak {t t' : TT} (h : PW X e t) (k : ∀ σ H Q, t' σ H Q → t σ H Q) : PW X e t' := ⟨fun w pins s σ H Q I q => h.run w pins s σ H Q I (k σ H Q q)⟩
theorem PA.weak {es : List Expr} {t t' : TA} (h : PA X es t) (k : ∀ σ H Q, t' σ H Q → t σ H Q) : PA X es t' := ⟨fun pos pins s σ H Q I q => h.run pos pins s σ H Q I (k σ H Q q)⟩
theorem PS.weak {st : Stmt} {t t' : TS} (h : PS X st t) (k : ∀ D σ H, t' D σ H → t D σ H) : PS X st t' := ⟨fun pins s σ H D I q => h.run pins s σ H D I (k D σ H q)⟩
theorem PSs.weak {st : List Stmt} {t t' : TS} (h : PSs X st t) (k : ∀ D σ H, t' D σ H → t D σ H) : PSs X st t' := ⟨fun pins s σ H D I q => h.run pins s σ H D I (k D σ H q)⟩
end

/-! ### names, constants -/
def eVar (i : Nat) : E := fun env S => match env[i]? with
  | some (some d) => .ok d S
  | _ => .stuck
def eC (d : D) : E := fun _ S => .ok d S
def e1 (f : D → Sto → R D) (a : E) : E := fun env S => (a env S).bind f
def e2 (f : D → D → Sto → R D) (a b : E) : E := fun env S => (a env S).bind fun x S1 => (b env S1).bind fun y S2 => f x y S2
def eN (f : List D → Sto → R D) (as : As) : E := fun env S => (as env S).bind f
def aNil : As := fun _ S => .ok [] S
def aCons (a : E) (r : As) : As := fun env S => (a env S).bind fun x S1 => (r env S1).bind fun xs S2 => .ok (x :: xs) S2
section
variable {X : Cx} {W : WS} {e a b : Expr} {f fa fb : E} {pos : Pos}
theorem fe_var (i : Nat) {x : Str} (hN : X.N[i]? = some x := by rfl) (hv : Vis X.env.scope x := by first | exact Or.inl rfl | exact Or.inr (Or.inl rfl) | exact Or.inr (Or.inr rfl)) (hd : (x == ("__debug__" : Str)) = false := by decide)
    (hcd : (x == ("__classdict__" : Str)) = false := by decide) : FE X W (.Name x pos) (eVar i) := by
  refine ⟨PE.weak (pe_var hN hv hd hcd) fun σ H Q h => ?_⟩
  obtain ⟨ι, env, S, rep, er, p⟩ := h
  unfold eVar at p
  split at p
  · rename_i d hd'
    obtain ⟨v, h1, h2⟩ := er.at_ i d hd'
    exact ⟨v, h1, p v H ι (Ext.refl _ _) rep h2⟩
  · exact p.elim
theorem constE {d : D} {v : V} (h : PE X e (tC v)) (r : ∀ ι H, RV (gm X) ι H d v) : FE X W e (eC d) := by
  refine ⟨PE.weak h fun σ H Q h => ?_⟩
  obtain ⟨ι, env, S, rep, er, p⟩ := h
  exact p v H ι (Ext.refl _ _) rep (r ι H)
theorem fe_int {i : Int} {j} : FE X W (.Constant (.int i) j pos) (eC (.int i)) := constE pe_int fun _ _ => rfl
theorem fe_bl {b : Bool} {j} : FE X W (.Constant (.bool b) j pos) (eC (.bl b)) := constE pe_bl fun _ _ => rfl
theorem fe_non {j} : FE X W (.Constant .none j pos) (eC .non) := constE pe_non fun _ _ => rfl
theorem fe_str {x : Str} {l : List Nat} {j} (hx : x = ⟨l.toArray⟩ := by rfl) : FE X W (.Constant (.str x) j pos) (eC (.str l)) := constE pe_str fun _ _ => by rw [hx]; exact rfl
/-- a module's constant that is no object -/
theorem fe_gint {x : Str} {i : Int} {t : Tok} (hm : X.mg x = some (.int i t)) (hg : Gl X x := by rfl) (hd : (x == ("__debug__" : Str)) = false := by decide) : FE X W (.Name x pos) (eC (.int i)) :=
  constE (pe_glob (v := .int i) hg hm ⟨t, rfl⟩ hd) fun _ _ => rfl
theorem fe_gstr {x : Str} {z : Str} {l : List Nat} {t : Tok} (hm : X.mg x = some (.str z t)) (hx : z = ⟨l.toArray⟩) (hg : Gl X x := by rfl) (hd : (x == ("__debug__" : Str)) = false := by decide) : FE X W (.Name x pos) (eC (.str l)) :=
  constE (pe_glob (v := .str z) hg hm ⟨t, rfl⟩ hd) fun _ _ => by rw [hx]; exact rfl
theorem fe_gref {x : Str} {d : D} {a : Addr} (hm : X.mg x = some (.ref a)) (hr : ∀ ι H, RV (gm X) ι H d (.ref a)) (hg : Gl X x := by rfl) (hd : (x == ("__debug__" : Str)) = false := by decide) : FE X W (.Name x pos) (eC d) :=
  constE (pe_glob (v := .ref a) hg hm rfl hd) hr

/-! ### value-level operations -/
/-- f on one value is told by the reading r -/
def V1 (G : Gm) (f : D → Sto → R D) (r : V → Hp → VK → Prop) : Prop := ∀ (W : WP) (ι : List Addr) (H : Hp) (S : Sto) (d : D) (v : V) (Q : VK), Rep G ι H S → RV G ι H d v → Post G (RV G) W ι H (f d S) Q → r v H Q
def V2 (G : Gm) (f : D → D → Sto → R D) (r : R2) : Prop := ∀ (W : WP) (ι : List Addr) (H : Hp) (S : Sto) (d e : D) (v u : V) (Q : VK), Rep G ι H S → RV G ι H d v → RV G ι H e u → Post G (RV G) W ι H (f d e S) Q → r v u H Q
def VN (G : Gm) (f : List D → Sto → R D) (r : List V → Hp → VK → Prop) : Prop := ∀ (W : WP) (ι : List Addr) (H : Hp) (S : Sto) (ds : List D) (vs : List V) (Q : VK), Rep G ι H S → RVs G ι H ds vs → Post G (RV G) W ι H (f ds S) Q → r vs H Q
theorem one_t {r : V → Hp → VK → Prop} {g : D → Sto → R D} {σ : L2.St} {H : Hp} {Q : VK} (hf : V1 (gm X) g r) (h : tE (gm X) W (e1 g fa) σ H Q) : tE (gm X) W fa σ H fun x H1 => r x H1 Q := by
  obtain ⟨ι, env, S, rep, er, p⟩ := h
  refine ⟨ι, env, S, rep, er, Post.imp (Post.bind p) fun x H1 q => ?_⟩
  obtain ⟨d, S1, ι1, _, rep1, rv, q⟩ := q
  exact hf _ ι1 H1 S1 d x Q rep1 rv q
theorem two_t {r : R2} {g : D → D → Sto → R D} {σ : L2.St} {H : Hp} {Q : VK} (hf : V2 (gm X) g r) (h : tE (gm X) W (e2 g fa fb) σ H Q) :
    tE (gm X) W fa σ H fun x H1 => tE (gm X) W fb σ H1 fun y H2 => r x y H2 Q := by
  obtain ⟨ι, env, S, rep, er, p⟩ := h
  refine ⟨ι, env, S, rep, er, Post.imp (Post.bind p) fun x H1 q => ?_⟩
  obtain ⟨d, S1, ι1, e1, rep1, rv, q⟩ := q
  refine ⟨ι1, env, S1, rep1, er.ext e1, Post.imp (Post.bind q) fun y H2 q2 => ?_⟩
  obtain ⟨d2, S2, ι2, e2, rep2, rv2, q2⟩ := q2
  exact hf _ ι2 H2 S2 d d2 x y Q rep2 (RV.ext e2 _ _ rv) rv2 q2
theorem args_t {r : List V → Hp → VK → Prop} {fs : As} {g : List D → Sto → R D} {σ : L2.St} {H : Hp} {Q : VK} (hf : VN (gm X) g r) (h : tE (gm X) W (eN g fs) σ H Q) : tA (gm X) W fs σ H fun xs H1 => r xs H1 Q := by
  obtain ⟨ι, env, S, rep, er, p⟩ := h
  refine ⟨ι, env, S, rep, er, Post.imp (Post.bind p) fun x H1 q => ?_⟩
  obtain ⟨d, S1, ι1, _, rep1, rv, q⟩ := q
  exact hf _ ι1 H1 S1 d x Q rep1 rv q
theorem fe_op {op : Operator} {r : R2} {g : D → D → Sto → R D} (ho : OpR X (binaryOp op) r) (hf : V2 (gm X) g r) (ha : FE X W a fa) (hb : FE X W b fb) : FE X W (.BinOp a op b pos) (e2 g fa fb) :=
  ⟨PE.weak (pe_op ho ha.pe hb.pe) fun _ _ _ h => two_t hf h⟩
theorem fe_un {op : UnaryOp} {r : V → Hp → VK → Prop} {g : D → Sto → R D} (ho : UnR X (unaryOp op) r) (hf : V1 (gm X) g r) (ha : FE X W a fa) : FE X W (.UnaryOp op a pos) (e1 g fa) :=
  ⟨PE.weak (pe_un ho ha.pe) fun _ _ _ h => one_t hf h⟩
theorem fe_cmp {op : CmpOp} {r : R2} {g : D → D → Sto → R D} (ho : OpR X (compareOp op) r) (hf : V2 (gm X) g r) (ha : FE X W a fa) (hb : FE X W b fb) (hm : behindInMarks op b = false) : FE X W (.Compare a [op] [b] pos) (e2 g fa fb) :=
  ⟨PE.weak (pe_cmpR ho ha.pe hb.pe hm) fun _ _ _ h => two_t hf h⟩
theorem fe_ix {r : R2} {g : D → D → Sto → R D} (ho : IxR X r) (hf : V2 (gm X) g r) (ha : FE X W a fa) (hb : FE X W b fb) (hs : PlainIx b) : FE X W (.Subscript a b pos) (e2 g fa fb) :=
  ⟨PE.weak (pe_ix ho ha.pe hb.pe hs) fun _ _ _ h => two_t hf h⟩

/-! ### arguments, displays, calls of built-ins -/
theorem fa_nil : FA X W [] aNil := by
  refine ⟨PA.weak pa_nil fun σ H Q h => ?_⟩
  obtain ⟨ι, env, S, rep, er, p⟩ := h
  exact p [] H ι (Ext.refl _ _) rep rfl
theorem fa_cons {es : List Expr} {fs : As} (ha : FE X W e fa) (hr : FA X W es fs) (hs : starEach (e :: es) X.env = (false, eval e X.env) :: starEach es X.env := by rfl) : FA X W (e :: es) (aCons fa fs) := by
  refine ⟨PA.weak (pa_cons ha.pe hr.pa hs) fun σ H Q h => ?_⟩
  obtain ⟨ι, env, S, rep, er, p⟩ := h
  refine ⟨ι, env, S, rep, er, Post.imp (Post.bind p) fun x H1 q => ?_⟩
  obtain ⟨d, S1, ι1, e1, rep1, rv, q⟩ := q
  refine ⟨ι1, env, S1, rep1, er.ext e1, Post.imp (Post.bind q) fun xs H2 q2 => ?_⟩
  obtain ⟨ds, S2, ι2, e2, rep2, rvs, q2⟩ := q2
  exact q2 (x :: xs) H2 ι2 (Ext.refl _ _) rep2 ⟨x, xs, rfl, RV.ext e2 _ _ rv, rvs⟩
def LINE : Nat := 16777216
theorem line_eq : LINE = sizeLine := sizeLine_eq.symm
def vTup (ds : List D) (S : Sto) : R D := if ds.length ≤ LINE then .ok (.tup ds) S else .stuck
def vLst (ds : List D) (S : Sto) : R D := if ds.length ≤ LINE then .ok (.ref S.length) (S ++ [.lst ds]) else .stuck
theorem post_tup {G : Gm} {Wp : WP} {ι : List Addr} {H : Hp} {S : Sto} {ds : List D} {vs : List V} {Q : VK} {p : Addr} (rep : Rep G ι H S) (rvs : RVs G ι H ds vs) (hp : H p = none)
    (q : ∀ v H' ι', Ext ι H ι' H' → Rep G ι' H' S → RV G ι' H' (.tup ds) v → Q v H') : Q (.ref p) (upd H p (.tup vs)) :=
  q _ _ ι (ext_upd hp) (rep.other hp) ⟨p, vs, rfl, .inl (.inl upd_same), RVs.ext (ext_upd hp) _ _ rvs⟩
theorem post_lst {G : Gm} {ι : List Addr} {H : Hp} {S : Sto} {ds : List D} {vs : List V} {Q : VK} {p : Addr} (rep : Rep G ι H S) (rvs : RVs G ι H ds vs) (hp : H p = none)
    (q : ∀ v H' ι', Ext ι H ι' H' → Rep G ι' H' (S ++ [.lst ds]) → RV G ι' H' (.ref S.length) v → Q v H') : Q (.ref p) (upd H p (.lst vs)) :=
  q _ _ (ι ++ [p]) (ext_push hp) (rep.push hp ⟨vs, upd_same, RVs.ext (ext_push hp) _ _ rvs⟩) ⟨p, by rw [← rep.len]; simp, rfl⟩
theorem fe_tup {es : List Expr} {fs : As} {j} (h : FA X W es fs) : FE X W (.Tuple es j pos) (eN vTup fs) := by
  refine ⟨PE.weak (pe_tup h.pa) fun σ H Q h => ?_⟩
  refine args_t (r := fun xs H1 Q => xs.length ≤ sizeLine ∧ ∀ p, H1 p = none → Q (.ref p) (upd H1 p (.tup xs))) (fun Wp ι H S ds vs Q rep rvs q => ?_) h
  unfold vTup at q
  split at q
  · rename_i hl
    exact ⟨by rw [← rvs.length, ← line_eq]; exact hl, fun p hp => post_tup (Wp := Wp) rep rvs hp q⟩
  · exact q.elim
theorem fe_lst {es : List Expr} {fs : As} (h : FA X W es fs) : FE X W (.List es pos) (eN vLst fs) := by
  refine ⟨PE.weak (pe_lst h.pa) fun σ H Q h => ?_⟩
  refine args_t (r := fun xs H1 Q => xs.length ≤ sizeLine ∧ ∀ p, H1 p = none → Q (.ref p) (upd H1 p (.lst xs))) (fun Wp ι H S ds vs Q rep rvs q => ?_) h
  unfold vLst at q
  split at q
  · rename_i hl
    exact ⟨by rw [← rvs.length, ← line_eq]; exact hl, fun p hp => post_lst rep rvs hp q⟩
  · exact q.elim
theorem fe_callB {id : String} {x : Str} {p : Pos} {es : List Expr} {fs : As} {r : List V → Hp → VK → Prop} {g : List D → Sto → R D} (hc : CallR X (.builtin id) r) (hf : VN (gm X) g r) (hm : X.mg x = none) (hv : bootBuiltins x = some (.builtin id)) (ha : FA X W (e :: es) fs) (hg : Gl X x := by rfl)
    (hn : x ≠ "__name__" := by decide) (hdb : (x == ("__debug__" : Str)) = false := by decide)
    (he : starEach (e :: es) X.env = (false, eval e X.env) :: starEach es X.env := by rfl) (hpl : (backTo pos (starEach es X.env)).any (·.1) = false := by rfl) : FE X W (.Call (.Name x p) (e :: es) [] pos) (eN g fs) :=
  ⟨PE.weak (pe_callB hc hg hm hv ha.pa hn hdb he hpl) fun _ _ _ h => args_t hf h⟩
theorem fe_callTy {ty : String} {x : Str} {p : Pos} {es : List Expr} {fs : As} {r : List V → Hp → VK → Prop} {g : List D → Sto → R D} (hc : CallR X (.type ty) r) (hf : VN (gm X) g r) (hm : X.mg x = none) (hv : bootBuiltins x = some (.type ty)) (ha : FA X W (e :: es) fs) (hg : Gl X x := by rfl)
    (hn : x ≠ "__name__" := by decide) (hdb : (x == ("__debug__" : Str)) = false := by decide)
    (he : starEach (e :: es) X.env = (false, eval e X.env) :: starEach es X.env := by rfl) (hpl : (backTo pos (starEach es X.env)).any (·.1) = false := by rfl) : FE X W (.Call (.Name x p) (e :: es) [] pos) (eN g fs) :=
  ⟨PE.weak (pe_callTy hc hg hm hv ha.pa hn hdb he hpl) fun _ _ _ h => args_t hf h⟩
theorem fe_callF {id : String} {x : Str} {p : Pos} {es : List Expr} {fs : As} {r : List V → Hp → VK → Prop} {g : List D → Sto → R D} (hc : CallR X (.builtin id) r) (hf : VN (gm X) g r) (hm : X.mg x = some (.builtin id)) (ha : FA X W (e :: es) fs) (hg : Gl X x := by rfl)
    (hdb : (x == ("__debug__" : Str)) = false := by decide)
    (he : starEach (e :: es) X.env = (false, eval e X.env) :: starEach es X.env := by rfl) (hpl : (backTo pos (starEach es X.env)).any (·.1) = false := by rfl) : FE X W (.Call (.Name x p) (e :: es) [] pos) (eN g fs) :=
  ⟨PE.weak (pe_callBfun hc hg hm ha.pa hdb he hpl) fun _ _ _ h => args_t hf h⟩
end
end Fz

/-! Fz3: tests; statements, blocks, loops. -/
namespace Fz
open PySem PySem.Spec PyProof.Rows L2

/-! ### truth -/
def truD (d : D) (S : Sto) : Option Bool := match d with
  | .non => some false
  | .bl b => some b
  | .int i => some (i != 0)
  | .str x => if x.length ≤ LINE then some (!x.isEmpty) else none
  | .tup ds => some (!ds.isEmpty)
  | .frl ds => some (!ds.isEmpty)
  | .ref n => match S[n]? with
    | some (.lst ds) => some (!ds.isEmpty)
    | some (.dk kvs) => some (!kvs.isEmpty)
    | _ => none
  | .fn _ => none
  | .lam _ => none
  | .lsv ds => some (!ds.isEmpty)
  | .dct ks _ => some (!ks.isEmpty)
section
variable {G : Gm} {ι : List Addr} {H : Hp}
theorem RVs.empty {ds : List D} {vs : List V} (h : RVs G ι H ds vs) : (!ds.isEmpty) = !vs.isEmpty := by
  have e := h.length
  cases ds <;> cases vs <;> simp_all
theorem RKV.length : ∀ {ds : List (Key × D)} {vs : List (Key × V)}, RKV G ι H ds vs → ds.length = vs.length
  | [], vs, h => by have e : vs = [] := h; subst e; rfl
  | (k, d) :: ds, vs, h => by
    obtain ⟨v, vr, rfl, h1, h2⟩ := h
    exact congrArg (· + 1) (RKV.length h2)
theorem truD_ok {S : Sto} {d : D} {v : V} {b : Bool} (rep : Rep G ι H S) (r : RV G ι H d v) (h : truD d S = some b) : TruV G.K v H b := by
  cases d with
  | non => have e : v = .non := r; subst e; exact (Option.some.inj h).symm
  | bl c => have e : v = .bl c := r; subst e; exact (Option.some.inj h).symm
  | int i => have e : v = .int i := r; subst e; exact (Option.some.inj h).symm
  | str x =>
    have e : v = .str ⟨x.toArray⟩ := r
    subst e
    simp only [truD] at h
    split at h
    · rename_i hl
      refine ⟨by show x.toArray.size ≤ sizeLine; rw [← line_eq]; simpa using hl, ?_⟩
      rw [← Option.some.inj h]
      show (!x.isEmpty) = ((x.toArray.size : Int) != 0)
      cases x with
      | nil => rfl
      | cons c r =>
        simp
        omega
    · cases h
  | tup ds =>
    obtain ⟨a, vs, rfl, h1, h2⟩ := r
    exact .inr (.inl ⟨vs, h1, by rw [← h2.empty]; exact (Option.some.inj h).symm⟩)
  | frl ds =>
    obtain ⟨a, vs, rfl, h1, h2⟩ := r
    exact .inl ⟨vs, h1.sql, by rw [← h2.empty]; exact (Option.some.inj h).symm⟩
  | ref n =>
    obtain ⟨a, h1, rfl⟩ := r
    simp only [truD] at h
    split at h
    · rename_i ds hc
      obtain ⟨vs, q1, q2⟩ := rep.cell n _ a hc h1
      exact .inl ⟨vs, .of q1, by rw [← q2.empty]; exact (Option.some.inj h).symm⟩
    · rename_i kvs hc
      obtain ⟨vs, q1, q2⟩ := rep.cell n _ a hc h1
      refine .inr (.inr ⟨vs, q1, ?_⟩)
      rw [← Option.some.inj h]
      have e := RKV.length q2
      cases kvs <;> cases vs <;> simp_all
    · cases h
  | fn x => cases h
  | lam _ => cases h
  | lsv ds => exact r.elim
  | dct ks ds => exact r.elim
end
def truR (d : D) (S : Sto) : R Bool := match truD d S with
  | some b => .ok b S
  | none => .stuck
def blR (d : D) (S : Sto) : R Bool := match d with
  | .bl b => .ok b S
  | _ => .stuck
def tOf (f : E) : T := fun env S => (f env S).bind truR
def tBl (f : E) : T := fun env S => (f env S).bind blR
def tNot (f : T) : T := fun env S => (f env S).bind fun b S1 => .ok (!b) S1
def tAnd (f g : T) : T := fun env S => (f env S).bind fun b S1 => if b = true then g env S1 else .ok false S1
def tOr (f g : T) : T := fun env S => (f env S).bind fun b S1 => if b = true then .ok true S1 else g env S1
def eIf (c : T) (a b : E) : E := fun env S => (c env S).bind fun k S1 => if k = true then a env S1 else b env S1
def eAnd (a b : E) : E := fun env S => (a env S).bind fun d S1 => (truR d S1).bind fun k S2 => if k = true then b env S2 else .ok d S2
def eOr (a b : E) : E := fun env S => (a env S).bind fun d S1 => (truR d S1).bind fun k S2 => if k = true then .ok d S2 else b env S2
def eNot (a : E) : E := fun env S => (a env S).bind fun d S1 => (truR d S1).bind fun k S2 => .ok (.bl (!k)) S2
section
variable {X : Cx} {W : WS} {e a b c : Expr} {f fa fb : E} {f0 fc fd : T} {pos : Pos} {rest : List Expr}
theorem truR_post {G : Gm} {β : Type} {Rel : List Addr → Hp → D → β → Prop} {Wp : WP} {ι : List Addr} {H : Hp} {S : Sto} {d : D} {v : V} {Q : β → Hp → Prop} {k : Bool → Sto → R D} (rep : Rep G ι H S) (r : RV G ι H d v)
    (p : Post G Rel Wp ι H ((truR d S).bind k) Q) : ∃ b, TruV G.K v H b ∧ Post G Rel Wp ι H (k b S) Q := by
  unfold truR at p
  split at p
  · rename_i b hb
    exact ⟨b, truD_ok rep r hb, p⟩
  · exact p.elim
theorem ft_tru (ha : FE X W a fa) (he : ∀ whole, isTrue a X.env whole = (do let v ← whole; standAt a.pos; holding [v] (truthy v)) := by intro _; rfl) : FT X W a (tOf fa) := by
  refine ⟨PT.weak (pt_truth ha.pe he) fun σ H Q h => ?_⟩
  obtain ⟨ι, env, S, rep, er, p⟩ := h
  refine ⟨ι, env, S, rep, er, Post.imp (Post.bind p) fun x H1 q => ?_⟩
  obtain ⟨d, S1, ι1, _, rep1, rv, q⟩ := q
  unfold truR at q
  split at q
  · rename_i k hk
    exact ⟨k, truD_ok rep1 rv hk, q k H1 ι1 (Ext.refl _ _) rep1 rfl⟩
  · exact q.elim
theorem ft_cmp {op : CmpOp} {r : R2} {g : D → D → Sto → R D} (ho : OpR X (compareOp op) r) (hf : V2 (gm X) g r) (ha : FE X W a fa) (hb : FE X W b fb) (hm : behindInMarks op b = false) : FT X W (.Compare a [op] [b] pos) (tBl (e2 g fa fb)) := by
  refine ⟨PT.weak (pt_cmpR ho ha.pe hb.pe hm) fun σ H Q h => ?_⟩
  obtain ⟨ι, env, S, rep, er, p⟩ := h
  refine two_t hf ⟨ι, env, S, rep, er, Post.imp (Post.bind p) fun x H1 q => ?_⟩
  obtain ⟨d, S1, ι1, _, rep1, rv, q⟩ := q
  unfold blR at q
  split at q
  · rename_i k
    have ex : x = .bl k := rv
    exact ⟨k, ex, q k H1 ι1 (Ext.refl _ _) rep1 rfl⟩
  · exact q.elim
theorem ft_not (ha : FT X W a f0) : FT X W (.UnaryOp .Not a pos) (tNot f0) := by
  refine ⟨PT.weak (pt_not ha.pt) fun σ H Q h => ?_⟩
  obtain ⟨ι, env, S, rep, er, p⟩ := h
  refine ⟨ι, env, S, rep, er, Post.imp (Post.bind (Rel := RB) p) fun x H1 q => ?_⟩
  obtain ⟨d, S1, ι1, _, rep1, rfl, q⟩ := q
  exact q _ H1 ι1 (Ext.refl _ _) rep1 rfl
/-- and, or: from the last one -/
structure FW (X : Cx) (W : WS) (e : Expr) (f : T) : Prop where
  pw : PW X e (tT (gm X) W f)
theorem FW.ft (h : FW X W e f0) : FT X W e f0 := ⟨PW.pt h.pw⟩
theorem fw_and1 (ha : FT X W a f0) : FW X W (.BoolOp .And [a] pos) f0 := ⟨pw_and1 ha.pt⟩
theorem fw_or1 (ha : FT X W a f0) : FW X W (.BoolOp .Or [a] pos) f0 := ⟨pw_or1 ha.pt⟩
theorem fw_and (ha : FT X W a fc) (hb : FW X W (.BoolOp .And (b :: rest) pos) fd) : FW X W (.BoolOp .And (a :: b :: rest) pos) (tAnd fc fd) := by
  refine ⟨PW.weak (pw_and ha.pt hb.pw) fun σ H Q h => ?_⟩
  obtain ⟨ι, env, S, rep, er, p⟩ := h
  refine ⟨ι, env, S, rep, er, Post.imp (Post.bind (Rel := RB) p) fun x H1 q => ?_⟩
  obtain ⟨d, S1, ι1, e1, rep1, rfl, q⟩ := q
  cases d with
  | true => exact ⟨ι1, env, S1, rep1, er.ext e1, q⟩
  | false => exact q _ H1 ι1 (Ext.refl _ _) rep1 rfl
theorem fw_or (ha : FT X W a fc) (hb : FW X W (.BoolOp .Or (b :: rest) pos) fd) : FW X W (.BoolOp .Or (a :: b :: rest) pos) (tOr fc fd) := by
  refine ⟨PW.weak (pw_or ha.pt hb.pw) fun σ H Q h => ?_⟩
  obtain ⟨ι, env, S, rep, er, p⟩ := h
  refine ⟨ι, env, S, rep, er, Post.imp (Post.bind (Rel := RB) p) fun x H1 q => ?_⟩
  obtain ⟨d, S1, ι1, e1, rep1, rfl, q⟩ := q
  cases d with
  | false => exact ⟨ι1, env, S1, rep1, er.ext e1, q⟩
  | true => exact q _ H1 ι1 (Ext.refl _ _) rep1 rfl
theorem fe_if (hc : FT X W c fc) (ha : FE X W a fa) (hb : FE X W b fb) : FE X W (.IfExp c a b pos) (eIf fc fa fb) := by
  refine ⟨PE.weak (pe_ifExp hc.pt ha.pe hb.pe) fun σ H Q h => ?_⟩
  obtain ⟨ι, env, S, rep, er, p⟩ := h
  refine ⟨ι, env, S, rep, er, Post.imp (Post.bind (Rel := RB) p) fun x H1 q => ?_⟩
  obtain ⟨d, S1, ι1, e1, rep1, rfl, q⟩ := q
  cases d with
  | false => exact ⟨ι1, env, S1, rep1, er.ext e1, q⟩
  | true => exact ⟨ι1, env, S1, rep1, er.ext e1, q⟩
theorem fe_one {op} (h : FE X W a fa) : FE X W (.BoolOp op [a] pos) fa := ⟨pe_one h.pe⟩
theorem fe_and (ha : FE X W a fa) (hb : FE X W (.BoolOp .And (b :: rest) pos) fb) : FE X W (.BoolOp .And (a :: b :: rest) pos) (eAnd fa fb) := by
  refine ⟨PE.weak (pe_andT ha.pe hb.pe) fun σ H Q h => ?_⟩
  obtain ⟨ι, env, S, rep, er, p⟩ := h
  refine ⟨ι, env, S, rep, er, Post.imp (Post.bind p) fun x H1 q => ?_⟩
  obtain ⟨d, S1, ι1, e1, rep1, rv, q⟩ := q
  obtain ⟨k, hk, q⟩ := truR_post rep1 rv q
  refine ⟨k, hk, ?_⟩
  cases k with
  | true => exact ⟨ι1, env, S1, rep1, er.ext e1, q⟩
  | false => exact q x H1 ι1 (Ext.refl _ _) rep1 rv
theorem fe_or (ha : FE X W a fa) (hb : FE X W (.BoolOp .Or (b :: rest) pos) fb) : FE X W (.BoolOp .Or (a :: b :: rest) pos) (eOr fa fb) := by
  refine ⟨PE.weak (pe_orT ha.pe hb.pe) fun σ H Q h => ?_⟩
  obtain ⟨ι, env, S, rep, er, p⟩ := h
  refine ⟨ι, env, S, rep, er, Post.imp (Post.bind p) fun x H1 q => ?_⟩
  obtain ⟨d, S1, ι1, e1, rep1, rv, q⟩ := q
  obtain ⟨k, hk, q⟩ := truR_post rep1 rv q
  refine ⟨k, hk, ?_⟩
  cases k with
  | false => exact ⟨ι1, env, S1, rep1, er.ext e1, q⟩
  | true => exact q x H1 ι1 (Ext.refl _ _) rep1 rv
theorem fe_not (ha : FE X W a fa) : FE X W (.UnaryOp .Not a pos) (eNot fa) := by
  refine ⟨PE.weak (pe_notT ha.pe) fun σ H Q h => ?_⟩
  obtain ⟨ι, env, S, rep, er, p⟩ := h
  refine ⟨ι, env, S, rep, er, Post.imp (Post.bind p) fun x H1 q => ?_⟩
  obtain ⟨d, S1, ι1, e1, rep1, rv, q⟩ := q
  obtain ⟨k, hk, q⟩ := truR_post rep1 rv q
  exact ⟨k, hk, q _ H1 ι1 (Ext.refl _ _) rep1 rfl⟩
end

/-! ### a < b <= c -/
def eCh (g g' : D → D → Sto → R D) (a b c : E) : E := fun env S => (a env S).bind fun x S1 => (b env S1).bind fun y S2 => (g x y S2).bind fun z S3 => (blR z S3).bind fun k S4 => if k = true then (c env S4).bind fun u S5 => g' y u S5 else .ok (.bl false) S4
section
variable {X : Cx} {W : WS} {a b c : Expr} {fa fb fc : E} {pos : Pos} {op op' : CmpOp} {r r' : R2} {g g' : D → D → Sto → R D}
/-- an operation whose reading is met at once (its answer is a truth and nothing changes) -/
def VB (G : Gm) (g : D → D → Sto → R D) (r : R2) : Prop := ∀ (ι : List Addr) (H : Hp) (S : Sto) (d e : D) (v u : V), Rep G ι H S → RV G ι H d v → RV G ι H e u →
  g d e S = .stuck ∨ ∃ k, g d e S = .ok (.bl k) S ∧ ∀ Q, Q (.bl k) H → r v u H Q
theorem VB.v2 {G : Gm} (h : VB G g r) : V2 G g r := fun W ι H S d e v u Q rep h1 h2 p => by
  rcases h ι H S d e v u rep h1 h2 with q | ⟨k, q, q2⟩
  · rw [q] at p; exact p.elim
  · rw [q] at p; exact q2 Q (p _ H ι (Ext.refl _ _) rep rfl)
theorem fe_chain (ho : OpR X (compareOp op) r) (ho' : OpR X (compareOp op') r') (hf : VB (gm X) g r) (hf' : VB (gm X) g' r') (ha : FE X W a fa) (hb : FE X W b fb) (hc : FE X W c fc)
    (hm : lastMarks [op, op'] [b, c] = false := by rfl) : FE X W (.Compare a [op, op'] [b, c] pos) (eCh g g' fa fb fc) := by
  refine ⟨PE.weak (pe_chain ho ho' ha.pe hb.pe hc.pe hm) fun σ H Q h => ?_⟩
  obtain ⟨ι, env, S, rep, er, p⟩ := h
  refine ⟨ι, env, S, rep, er, Post.imp (Post.bind p) fun x H1 q => ?_⟩
  obtain ⟨d, S1, ι1, e1, rep1, rv, q⟩ := q
  refine ⟨ι1, env, S1, rep1, er.ext e1, Post.imp (Post.bind q) fun y H2 q2 => ?_⟩
  obtain ⟨d2, S2, ι2, e2, rep2, rv2, q2⟩ := q2
  rcases hf ι2 H2 S2 d d2 x y rep2 (RV.ext e2 _ _ rv) rv2 with z | ⟨k, z, z2⟩
  · rw [z] at q2; exact q2.elim
  · rw [z] at q2
    refine z2 _ ⟨k, rfl, ?_⟩
    cases k with
    | false => exact q2 _ H2 ι2 (Ext.refl _ _) rep2 rfl
    | true =>
      have er2 := (er.ext e1).ext e2
      refine ⟨ι2, env, S2, rep2, er2, Post.imp (Post.bind q2) fun u H3 q3 => ?_⟩
      obtain ⟨d3, S3, ι3, e3, rep3, rv3, q3⟩ := q3
      rcases hf' ι3 H3 S3 d2 d3 y u rep3 (RV.ext e3 _ _ rv2) rv3 with w | ⟨k', w, w2⟩
      · rw [w] at q3; exact q3.elim
      · rw [w] at q3
        exact w2 _ (q3 _ H3 ι3 (Ext.refl _ _) rep3 rfl)
theorem ft_chain (ho : OpR X (compareOp op) r) (ho' : OpR X (compareOp op') r') (hf : VB (gm X) g r) (hf' : VB (gm X) g' r') (ha : FE X W a fa) (hb : FE X W b fb) (hc : FE X W c fc) (hm : lastMarks [op, op'] [b, c] = false := by rfl) : FT X W (.Compare a [op, op'] [b, c] pos) (tBl (eCh g g' fa fb fc)) := by
  refine ⟨PT.weak (pt_chain ho ho' ha.pe hb.pe hc.pe hm) fun σ H Q h => ?_⟩
  obtain ⟨ι, env, S, rep, er, p⟩ := h
  unfold tBl eCh at p
  simp only [bind_assoc] at p
  refine ⟨ι, env, S, rep, er, Post.imp (Post.bind p) fun x H1 q => ?_⟩
  obtain ⟨d, S1, ι1, e1, rep1, rv, q⟩ := q
  refine ⟨ι1, env, S1, rep1, er.ext e1, Post.imp (Post.bind q) fun y H2 q2 => ?_⟩
  obtain ⟨d2, S2, ι2, e2, rep2, rv2, q2⟩ := q2
  rcases hf ι2 H2 S2 d d2 x y rep2 (RV.ext e2 _ _ rv) rv2 with z | ⟨k, z, z2⟩
  · rw [z] at q2; exact q2.elim
  · rw [z] at q2
    refine z2 _ ⟨k, rfl, ?_⟩
    cases k with
    | false => exact ⟨false, rfl, q2 _ H2 ι2 (Ext.refl _ _) rep2 rfl⟩
    | true =>
      have er2 := (er.ext e1).ext e2
      simp only [bind_ok, blR, if_true, bind_assoc] at q2
      refine ⟨ι2, env, S2, rep2, er2, Post.imp (Post.bind q2) fun u H3 q3 => ?_⟩
      obtain ⟨d3, S3, ι3, e3, rep3, rv3, q3⟩ := q3
      rcases hf' ι3 H3 S3 d2 d3 y u rep3 (RV.ext e3 _ _ rv2) rv3 with w | ⟨k', w, w2⟩
      · rw [w] at q3; exact q3.elim
      · rw [w] at q3
        exact w2 _ ⟨k', rfl, q3 _ H3 ι3 (Ext.refl _ _) rep3 rfl⟩
end

/-! ### statements -/
inductive Fl where
  | nx (env : EnvD) (S : Sto) | rt (d : D) (S : Sto) | bk (env : EnvD) (S : Sto) | ct (env : EnvD) (S : Sto)
  | exc (C : Str) (fs : List (Str × D)) (S : Sto) | stuck
abbrev Sm := EnvD → Sto → Fl
def R.fl {α : Type} (r : R α) (k : α → Sto → Fl) : Fl := match r with
  | .ok a S => k a S
  | .exc C fs S => .exc C fs S
  | .stuck => .stuck
@[simp] theorem fl_ok {α : Type} (a : α) (S : Sto) (k : α → Sto → Fl) : (R.ok a S).fl k = k a S := rfl
@[simp] theorem fl_stuck {α : Type} (k : α → Sto → Fl) : (R.stuck : R α).fl k = .stuck := rfl
@[simp] theorem fl_exc {α : Type} (C : Str) (fs : List (Str × D)) (S : Sto) (k : α → Sto → Fl) : (R.exc C fs S : R α).fl k = .exc C fs S := rfl
theorem fl_bind {α β : Type} (r : R α) (k : α → Sto → R β) (j : β → Sto → Fl) : (r.bind k).fl j = r.fl fun a S => (k a S).fl j := by cases r <;> rfl
def PostS (G : Gm) (W : WS) (ι : List Addr) (H : Hp) (r : Fl) (D : Ends) : Prop := match r with
  | .nx env S => ∀ σ H' ι', Ext ι H ι' H' → Rep G ι' H' S → EnvR G ι' H' env σ → D.nx σ H'
  | .bk env S => ∀ σ H' ι', Ext ι H ι' H' → Rep G ι' H' S → EnvR G ι' H' env σ → D.bk σ H'
  | .ct env S => ∀ σ H' ι', Ext ι H ι' H' → Rep G ι' H' S → EnvR G ι' H' env σ → D.ct σ H'
  | .rt d S => ∀ v H' ι', Ext ι H ι' H' → Rep G ι' H' S → RV G ι' H' d v → D.rt v H'
  | .exc C fs S' => ∀ c dx fv σ H' ι', G.mg C = some (.ref c) → Ext ι H ι' H' → Rep G ι' H' S' → H' dx = some (.xd fv) → RF G ι' H' fs fv → W (.ref c) (some dx) σ H'
  | .stuck => False
theorem PostS.mono {G : Gm} {W : WS} {ι ι' : List Addr} {H H' : Hp} {r : Fl} {Q : Ends} (e : Ext ι H ι' H') (h : PostS G W ι H r Q) : PostS G W ι' H' r Q := by
  cases r with
  | nx env S => exact fun σ H2 ι2 e2 p q => h σ H2 ι2 (e.trans e2) p q
  | bk env S => exact fun σ H2 ι2 e2 p q => h σ H2 ι2 (e.trans e2) p q
  | ct env S => exact fun σ H2 ι2 e2 p q => h σ H2 ι2 (e.trans e2) p q
  | rt d S => exact fun v H2 ι2 e2 p q => h v H2 ι2 (e.trans e2) p q
  | exc C fs S' => exact fun c dx fv σ H2 ι2 m e2 p q z => h c dx fv σ H2 ι2 m (e.trans e2) p q z
  | stuck => exact h
/-- an expression's run, then a statement's -/
theorem PostS.bind {G : Gm} {W : WS} {α β : Type} {Rel : List Addr → Hp → α → β → Prop} {ι : List Addr} {H : Hp} {r : R α} {k : α → Sto → Fl} {Q : Ends} {σ : L2.St} (h : PostS G W ι H (r.fl k) Q) :
    Post G Rel (fun c d H' => W c d σ H') ι H r (fun v H' => ∃ d S' ι', Ext ι H ι' H' ∧ Rep G ι' H' S' ∧ Rel ι' H' d v ∧ PostS G W ι' H' (k d S') Q) := by
  cases r with
  | ok d S' => exact fun v H' ι' e p q => ⟨d, S', ι', e, p, q, PostS.mono e h⟩
  | exc C fs S' => exact fun c dx fv H' ι' m e p q z => h c dx fv σ H' ι' m e p q z
  | stuck => exact h
/-- in the wish's place: at which slots an exception leaves is not told -/
def tS (G : Gm) (W : WS) (f : Sm) : TS := fun Q σ H => ∃ ι env S, Rep G ι H S ∧ EnvR G ι H env σ ∧ PostS G W ι H (f env S) Q
structure FS (X : Cx) (W : WS) (st : Stmt) (f : Sm) : Prop where
  ps : PS X st (tS (gm X) W f)
structure FSs (X : Cx) (W : WS) (st : List Stmt) (f : Sm) : Prop where
  pss : PSs X st (tS (gm X) W f)
def sNil : Sm := fun env S => .nx env S
def sSeq (a b : Sm) : Sm := fun env S => match a env S with
  | .nx env' S' => b env' S'
  | r => r
def sExpr (a : E) : Sm := fun env S => (a env S).fl fun _ S1 => .nx env S1
def sRet (a : E) : Sm := fun env S => (a env S).fl fun d S1 => .rt d S1
def sRetN : Sm := fun _ S => .rt .non S
def sBrk : Sm := fun env S => .bk env S
def sCnt : Sm := fun env S => .ct env S
def sIf (c : T) (a b : Sm) : Sm := fun env S => (c env S).fl fun k S1 => if k = true then a env S1 else b env S1
/-- no exception here -/
def R.fl0 {α : Type} (r : R α) (k : α → Sto → Fl) : Fl := match r with
  | .ok a S => k a S
  | _ => .stuck
@[simp] theorem fl0_ok {α : Type} (a : α) (S : Sto) (k : α → Sto → Fl) : (R.ok a S).fl0 k = k a S := rfl
@[simp] theorem fl0_stuck {α : Type} (k : α → Sto → Fl) : (R.stuck : R α).fl0 k = .stuck := rfl
theorem fl0_bind {α β : Type} (r : R α) (k : α → Sto → R β) (j : β → Sto → Fl) : (r.bind k).fl0 j = r.fl0 fun a S => (k a S).fl0 j := by cases r <;> rfl
theorem PostS.bind0 {G : Gm} {W : WS} {α β : Type} {Rel : List Addr → Hp → α → β → Prop} {ι : List Addr} {H : Hp} {r : R α} {k : α → Sto → Fl} {Q : Ends} (h : PostS G W ι H (r.fl0 k) Q) :
    Post G Rel (fun _ _ _ => False) ι H r (fun v H' => ∃ d S' ι', Ext ι H ι' H' ∧ Rep G ι' H' S' ∧ Rel ι' H' d v ∧ PostS G W ι' H' (k d S') Q) := by
  cases r with
  | ok d S' => exact fun v H' ι' e p q => ⟨d, S', ι', e, p, q, PostS.mono e h⟩
  | exc C fs S' => exact h.elim
  | stuck => exact h
/-- a target: a value into the slots -/
abbrev Tg := D → EnvD → Sto → R EnvD
def gNm (i : Nat) : Tg := fun d env S => .ok (env.set i (some d)) S
def sAsg (a : E) (g : Tg) : Sm := fun env S => (a env S).fl fun d S1 => (g d env S1).fl0 fun env' S2 => .nx env' S2
abbrev Tgs := List D → EnvD → Sto → R EnvD
def gsNil : Tgs := fun ds env S => match ds with
  | [] => .ok env S
  | _ => .stuck
def gsCons (g : Tg) (r : Tgs) : Tgs := fun ds env S => match ds with
  | d :: ds => (g d env S).bind fun env' S' => r ds env' S'
  | [] => .stuck
def gTp (n : Nat) (g : Tgs) : Tg := fun d env S => match d with
  | .tup ds => if ds.length = n then g ds env S else .stuck
  | _ => .stuck
/-- o[i] = v by values -/
def vSet (o i v : D) (S : Sto) : R Unit := match o, i with
  | .ref n, .int k => match S[n]? with
    | some (.lst ds) => match ixN ds.length k with
      | some j => .ok () (S.set n (.lst (ds.set j v)))
      | none => .stuck
    | _ => .stuck
  | _, _ => .stuck
def gSb (a b : E) : Tg := fun d env S => (a env S).bind fun o S1 => (b env S1).bind fun i S2 => (vSet o i d S2).bind fun _ S3 => .ok env S3
abbrev W0 : WP := fun _ _ _ => False
/-- the frame behind a target: only the slots ws are new -/
def EW (G : Gm) (ws : List Nat) (σ : L2.St) (ι : List Addr) (H : Hp) (env : EnvD) (σ' : L2.St) : Prop := EnvR G ι H env σ' ∧ wipe σ' ws = wipe σ ws
def tGd (G : Gm) (ws : List Nat) (g : Tg) : TG := fun v σ H Q => ∃ ι env S d, Rep G ι H S ∧ EnvR G ι H env σ ∧ RV G ι H d v ∧ Post G (EW G ws σ) W0 ι H (g d env S) Q
def tGs (G : Gm) (ws : List Nat) (g : Tgs) : TGs := fun vs σ H Q => ∃ ι env S ds, Rep G ι H S ∧ EnvR G ι H env σ ∧ RVs G ι H ds vs ∧ Post G (EW G ws σ) W0 ι H (g ds env S) Q
structure FG (X : Cx) (ws : List Nat) (tg : Expr) (g : Tg) : Prop where
  pg : PG X tg (tGd (gm X) ws g)
structure FGs (X : Cx) (ws : List Nat) (tgs : List Expr) (g : Tgs) : Prop where
  pg : PGs X tgs (tGs (gm X) ws g)
theorem wipe_set_in {σ : L2.St} {i : Nat} {x : Option V} : ∀ {ws : List Nat}, i ∈ ws → wipe (σ.set i x) ws = wipe σ ws
  | [], h => absurd h (by simp)
  | w :: ws, h => by
    unfold wipe
    by_cases hi : i ∈ ws
    · rw [wipe_set_in hi]
    · have e : i = w := by
        rcases List.mem_cons.mp h with z | z
        · exact z
        · exact absurd z hi
      subst e
      have key : ∀ us : List Nat, i ∉ us → wipe (σ.set i x) us = (wipe σ us).set i x := fun us => by
        induction us with
        | nil => intro _; rfl
        | cons u us ih =>
          intro hu
          simp only [List.mem_cons, not_or] at hu
          unfold wipe
          rw [ih hu.2, List.set_comm _ _ (fun z => hu.1 z)]
      rw [key ws hi, List.set_set]
def sStuck : Sm := fun _ _ => .stuck
section
variable {X : Cx} {W : WS} {e a b tg : Expr} {tgs : List Expr} {f fa fb : E} {g : Tg} {gs : Tgs} {pos : Pos} {st : Stmt} {sts sts' : List Stmt} {s1 s2 : Sm} {fc : T} {ws : List Nat}
theorem PG.weak {t t' : TG} (h : PG X tg t) (k : ∀ v σ H Q, t' v σ H Q → t v σ H Q) : PG X tg t' := ⟨fun pins s σ H v u Q I r q => h.run pins s σ H v u Q I r (k v σ H Q q)⟩
theorem PGs.weak {t t' : TGs} (h : PGs X tgs t) (k : ∀ v σ H Q, t' v σ H Q → t v σ H Q) : PGs X tgs t' := ⟨fun pins s σ H v u Q I r q => h.run pins s σ H v u Q I r (k v σ H Q q)⟩
theorem fg_name {i : Nat} {x : Str} (hN : X.N.Nodup) (hi : X.N[i]? = some x := by rfl) (hx : Loc X.env.scope x := by first | exact Or.inl rfl | exact Or.inr rfl) (hf : X.fn x = true ∨ X.env.scope.names.lookup x = some .local := by first | exact .inl rfl | exact .inr rfl) (hw : i ∈ ws := by decide) : FG X ws (.Name x pos) (gNm i) := by
  refine ⟨PG.weak (pg_name hN hi hx hf) fun v σ H Q h => ?_⟩
  obtain ⟨ι, env, S, d, rep, er, rv, p⟩ := h
  exact p (σ.set i (some v)) H ι (Ext.refl _ _) rep ⟨er.set i rv, wipe_set_in hw⟩
theorem fgs_nil : FGs X ws [] gsNil := by
  refine ⟨PGs.weak pgs_nil fun vs σ H Q h => ?_⟩
  obtain ⟨ι, env, S, ds, rep, er, rv, p⟩ := h
  unfold gsNil at p
  split at p
  · have e : vs = [] := rv
    exact ⟨e, p σ H ι (Ext.refl _ _) rep ⟨er, rfl⟩⟩
  · exact p.elim
theorem fgs_cons (h1 : FG X ws e g) (h2 : FGs X ws tgs gs) (hs : (assignEach (e :: tgs) X.env).map (·.2) = assign e X.env :: (assignEach tgs X.env).map (·.2) := by rfl) : FGs X ws (e :: tgs) (gsCons g gs) := by
  refine ⟨PGs.weak (pgs_cons h1.pg h2.pg hs) fun vs σ H Q h => ?_⟩
  obtain ⟨ι, env, S, ds, rep, er, rv, p⟩ := h
  unfold gsCons at p
  split at p
  · obtain ⟨v, vr, rfl, r1, r2⟩ := rv
    refine ⟨v, vr, rfl, ι, env, S, _, rep, er, r1, Post.imp (Post.bind (Rel := EW (gm X) ws σ) p) fun σ1 H1 q => ?_⟩
    obtain ⟨env1, S1, ι1, e1, rep1, er1, q⟩ := q
    refine ⟨ι1, env1, S1, _, rep1, er1.1, RVs.ext e1 _ _ r2, ?_⟩
    have hw : EW (gm X) ws σ1 = EW (gm X) ws σ := by
      funext ι H env σ'
      unfold EW
      rw [er1.2]
    rw [hw]
    exact q
  · exact p.elim
theorem fg_tup {k n : Nat} (hc : X.calm = true) (h : FGs X ws tgs gs) (hn : (assignEach tgs X.env).length = n := by rfl) (hst : (assignEach tgs X.env).findIdx? (·.1) = none := by rfl) : FG X ws (.Tuple tgs k pos) (gTp n gs) := by
  refine ⟨PG.weak (pg_tup hc h.pg hn hst) fun v σ H Q h => ?_⟩
  obtain ⟨ι, env, S, d, rep, er, rv, p⟩ := h
  unfold gTp at p
  split at p
  · split at p
    · rename_i hl
      obtain ⟨a, vs, rfl, h1, h2⟩ := rv
      exact ⟨a, vs, rfl, h1, by rw [← h2.length]; exact hl, ι, env, S, _, rep, er, h2, p⟩
    · exact p.elim
  · exact p.elim
theorem fg_sub (ha : FE X W a fa) (hb : FE X W b fb) (hp : ∀ v, assign (.Subscript a b pos) X.env v = (do
      let ov ← holding [v] (eval a X.env)
      let iv ← holding [v, ov] (eval b X.env)
      standAt pos
      holding [v, ov, iv] (setItem ov iv v)
      release [v, ov, iv] []) := by intro _; rfl) : FG X ws (.Subscript a b pos) (gSb fa fb) := by
  refine ⟨PG.weak (pg_sub ha.pe hb.pe set_list hp) fun v σ H Q h => ?_⟩
  obtain ⟨ι, env, S, d, rep, er, rv, p⟩ := h
  refine ⟨ι, env, S, rep, er, Post.imp (Post.wp (Post.bind p) fun _ _ _ z => z.elim) fun o H1 q => ?_⟩
  obtain ⟨od, S1, ι1, e1, rep1, ro, q⟩ := q
  refine ⟨ι1, env, S1, rep1, er.ext e1, Post.imp (Post.wp (Post.bind q) fun _ _ _ z => z.elim) fun i H2 q2 => ?_⟩
  obtain ⟨id, S2, ι2, e2, rep2, ri, q2⟩ := q2
  have rv2 := RV.ext e2 _ _ (RV.ext e1 _ _ rv)
  have ro2 := RV.ext e2 _ _ ro
  unfold vSet at q2
  split at q2
  · rename_i n k
    split at q2
    · rename_i ds hds
      split at q2
      · rename_i j hj
        obtain ⟨pa, h1, rfl⟩ := ro2
        have ei : i = .int k := ri
        obtain ⟨vs, hv1, hv2⟩ := rep2.cell n _ pa hds h1
        refine ⟨pa, vs, k, j, rfl, ei, hv1, by rw [← hv2.length]; exact hj, ?_⟩
        refine q2 σ _ ι2 (ext_set rep2 h1) (rep2.set h1 ⟨vs.set j v, upd_same, ?_⟩) ⟨((er.ext e1).ext e2).ext (ext_set rep2 h1), rfl⟩
        exact RVs.ext (ext_set rep2 h1) _ _ (RVs.set j hv2 rv2)
      · exact q2.elim
    · exact q2.elim
  · exact q2.elim
theorem fss_nil : FSs X W [] sNil := by
  refine ⟨PSs.weak pss_nil fun D σ H h => ?_⟩
  obtain ⟨ι, env, S, rep, er, p⟩ := h
  exact p σ H ι (Ext.refl _ _) rep er
theorem PostS.seq {G : Gm} {ι : List Addr} {H : Hp} {env : EnvD} {S : Sto} {s1 s2 : Sm} {Q : Ends} (p : PostS G W ι H (sSeq s1 s2 env S) Q) : PostS G W ι H (s1 env S) { Q with nx := tS G W s2 Q } := by
  unfold sSeq at p
  revert p
  cases s1 env S with
  | nx env' S' => exact fun p σ H' ι' e rep er => ⟨ι', env', S', rep, er, PostS.mono e p⟩
  | rt d S => exact fun p => p
  | bk env S => exact fun p => p
  | ct env S => exact fun p => p
  | exc C fs S => exact fun p => p
  | stuck => exact fun p => p
theorem fss_cons (h1 : FS X W st s1) (h2 : FSs X W sts s2) : FSs X W (st :: sts) (sSeq s1 s2) := by
  refine ⟨PSs.weak (pss_cons h1.ps h2.pss) fun D σ H h => ?_⟩
  obtain ⟨ι, env, S, rep, er, p⟩ := h
  exact ⟨ι, env, S, rep, er, PostS.seq p⟩
theorem fss_one (h1 : FS X W st s1) : FSs X W [st] s1 := ⟨pss_one h1.ps⟩
theorem fs_expr (he : FE X W e f) (hs : swapsWith e none pos.line X.env = pure false := by rfl) : FS X W (.Expr e pos) (sExpr f) := by
  refine ⟨PS.weak (ps_expr he.pe hs) fun D σ H h => ?_⟩
  obtain ⟨ι, env, S, rep, er, p⟩ := h
  refine ⟨ι, env, S, rep, er, Post.imp (PostS.bind p) fun v H1 q => ?_⟩
  obtain ⟨d, S1, ι1, e1, rep1, rv, q⟩ := q
  exact q σ H1 ι1 (Ext.refl _ _) rep1 (er.ext e1)
theorem fs_ret (he : FE X W e f) : FS X W (.Return (some e) pos) (sRet f) := by
  refine ⟨PS.weak (ps_ret he.pe) fun D σ H h => ?_⟩
  obtain ⟨ι, env, S, rep, er, p⟩ := h
  refine ⟨ι, env, S, rep, er, Post.imp (PostS.bind p) fun v H1 q => ?_⟩
  obtain ⟨d, S1, ι1, e1, rep1, rv, q⟩ := q
  exact q v H1 ι1 (Ext.refl _ _) rep1 rv
theorem fs_retN : FS X W (.Return none pos) sRetN := by
  refine ⟨PS.weak ps_retN fun D σ H h => ?_⟩
  obtain ⟨ι, env, S, rep, er, p⟩ := h
  exact p .non H ι (Ext.refl _ _) rep rfl
theorem fs_pass : FS X W (.Pass pos) sNil := by
  refine ⟨PS.weak ps_pass fun D σ H h => ?_⟩
  obtain ⟨ι, env, S, rep, er, p⟩ := h
  exact p σ H ι (Ext.refl _ _) rep er
theorem fs_break : FS X W (.Break pos) sBrk := by
  refine ⟨PS.weak ps_break fun D σ H h => ?_⟩
  obtain ⟨ι, env, S, rep, er, p⟩ := h
  exact p σ H ι (Ext.refl _ _) rep er
theorem fs_continue : FS X W (.Continue pos) sCnt := by
  refine ⟨PS.weak ps_continue fun D σ H h => ?_⟩
  obtain ⟨ι, env, S, rep, er, p⟩ := h
  exact p σ H ι (Ext.refl _ _) rep er
theorem fs_never : FS X W st sStuck := ⟨PS.weak ps_never fun D σ H h => by obtain ⟨ι, env, S, rep, er, p⟩ := h; exact p⟩
theorem fs_if {c : Expr} (hc : FT X W c fc) (ha : FSs X W sts s1) (hb : FSs X W sts' s2) : FS X W (.If c sts sts' pos) (sIf fc s1 s2) := by
  refine ⟨PS.weak (ps_if hc.pt ha.pss hb.pss) fun D σ H h => ?_⟩
  obtain ⟨ι, env, S, rep, er, p⟩ := h
  refine ⟨ι, env, S, rep, er, Post.imp (PostS.bind (Rel := RB) p) fun v H1 q => ?_⟩
  obtain ⟨d, S1, ι1, e1, rep1, rfl, q⟩ := q
  cases d with
  | true => exact ⟨ι1, env, S1, rep1, er.ext e1, q⟩
  | false => exact ⟨ι1, env, S1, rep1, er.ext e1, q⟩
theorem asg_t {D : Ends} {σ : L2.St} {H : Hp} (h : tS (gm X) W (sAsg f g) D σ H) : tE (gm X) W f σ H fun x H1 => tGd (gm X) ws g x σ H1 D.nx := by
  obtain ⟨ι, env, S, rep, er, p⟩ := h
  refine ⟨ι, env, S, rep, er, Post.imp (PostS.bind p) fun v H1 q => ?_⟩
  obtain ⟨d, S1, ι1, e1, rep1, rv, q⟩ := q
  refine ⟨ι1, env, S1, d, rep1, er.ext e1, rv, Post.imp (PostS.bind0 (Rel := EW (gm X) ws σ) q) fun σ2 H2 q2 => ?_⟩
  obtain ⟨env2, S2, ι2, e2, rep2, er2, q2⟩ := q2
  exact q2 σ2 H2 ι2 (Ext.refl _ _) rep2 er2.1
theorem fs_asg (he : FE X W e f) (hg : FG X ws tg g) (hs : swapsWithSole [tg] e pos.line X.env = pure false := by rfl) (hw : swappedStores [tg] e X.env = pure none := by rfl)
    (h1 : (assignEach [tg] X.env).map (·.2) = [assign tg X.env] := by rfl) : FS X W (.Assign [tg] e pos) (sAsg f g) :=
  ⟨PS.weak (ps_asg he.pe hg.pg hs hw h1) fun _ _ _ h => asg_t h⟩
end
end Fz

/-! Fz4: stores at once, while, for, comprehensions. -/
namespace Fz
open PySem PySem.Spec PyProof.Rows L2

/-! ### a, b = x, y -/
def sPar2 (i j : Nat) (fs : As) : Sm := fun env S => (fs env S).fl fun ds S1 => match ds with
  | [a, b] => .nx ((env.set i (some a)).set j (some b)) S1
  | _ => .stuck
def sPar3 (i j l : Nat) (fs : As) : Sm := fun env S => (fs env S).fl fun ds S1 => match ds with
  | [a, b, c] => .nx (((env.set i (some a)).set j (some b)).set l (some c)) S1
  | _ => .stuck
section
variable {X : Cx} {W : WS} {a b c : Expr} {fs : As} {pos px py pz pt : Pos} {x y z : Str} {i j l : Nat}
theorem fs_par {kt k2 pt2} (hc : X.calm = true) (hN : X.N.Nodup) (hx : X.env.scope.names.lookup x = some .local) (hy : X.env.scope.names.lookup y = some .local) (ha : FA X W [a, b] fs)
    (hi : X.N[i]? = some x := by rfl) (hj : X.N[j]? = some y := by rfl) (hij : i ≠ j := by decide)
    (hw : swappedStores [.Tuple [.Name x px, .Name y py] kt pt] (.Tuple [a, b] k2 pt2) X.env = pure (some [x, y]) := by rfl)
    (hs : swapsWithSole [.Tuple [.Name x px, .Name y py] kt pt] (.Tuple [a, b] k2 pt2) pos.line X.env = pure false := by rfl) :
    FS X W (.Assign [.Tuple [.Name x px, .Name y py] kt pt] (.Tuple [a, b] k2 pt2) pos) (sPar2 i j fs) := by
  refine ⟨PS.weak (ps_par hc hN hi hj hij hx hy ha.pa hw hs) fun D σ H h => ?_⟩
  obtain ⟨ι, env, S, rep, er, p⟩ := h
  refine ⟨ι, env, S, rep, er, Post.imp (PostS.bind p) fun vs H1 q => ?_⟩
  obtain ⟨ds, S1, ι1, e1, rep1, rvs, q⟩ := q
  split at q
  · rename_i d1 d2
    obtain ⟨v, vr, rfl, r1, r2⟩ := rvs
    obtain ⟨u, vr', rfl, r3, r4⟩ := r2
    have e : vr' = [] := r4
    subst e
    exact ⟨v, u, rfl, q _ H1 ι1 (Ext.refl _ _) rep1 (((er.ext e1).set i r1).set j r3)⟩
  · exact q.elim
theorem fs_par3 {kt k2 pt2} (hc : X.calm = true) (hN : X.N.Nodup) (hx : X.env.scope.names.lookup x = some .local) (hy : X.env.scope.names.lookup y = some .local) (hz : X.env.scope.names.lookup z = some .local) (ha : FA X W [a, b, c] fs)
    (hi : X.N[i]? = some x := by rfl) (hj : X.N[j]? = some y := by rfl) (hl : X.N[l]? = some z := by rfl) (hij : i ≠ j := by decide) (hil : i ≠ l := by decide) (hjl : j ≠ l := by decide)
    (hw : swappedStores [.Tuple [.Name x px, .Name y py, .Name z pz] kt pt] (.Tuple [a, b, c] k2 pt2) X.env = pure (some [x, y, z]) := by rfl)
    (hs : swapsWithSole [.Tuple [.Name x px, .Name y py, .Name z pz] kt pt] (.Tuple [a, b, c] k2 pt2) pos.line X.env = pure false := by rfl) :
    FS X W (.Assign [.Tuple [.Name x px, .Name y py, .Name z pz] kt pt] (.Tuple [a, b, c] k2 pt2) pos) (sPar3 i j l fs) := by
  refine ⟨PS.weak (ps_par3 hc hN hi hj hl hij hil hjl hx hy hz ha.pa hw hs) fun D σ H h => ?_⟩
  obtain ⟨ι, env, S, rep, er, p⟩ := h
  refine ⟨ι, env, S, rep, er, Post.imp (PostS.bind p) fun vs H1 q => ?_⟩
  obtain ⟨ds, S1, ι1, e1, rep1, rvs, q⟩ := q
  split at q
  · obtain ⟨v, vr, rfl, r1, r2⟩ := rvs
    obtain ⟨u, vr', rfl, r3, r4⟩ := r2
    obtain ⟨w, vr'', rfl, r5, r6⟩ := r4
    have e : vr'' = [] := r6
    subst e
    exact ⟨v, u, w, rfl, q _ H1 ι1 (Ext.refl _ _) rep1 ((((er.ext e1).set i r1).set j r3).set l r5)⟩
  · exact q.elim
end

/-! ### while -/
def sWhN (c : T) (b : Sm) : Nat → Sm
  | 0 => fun _ _ => .stuck
  | n + 1 => fun env S => (c env S).fl fun k S1 => if k = true then
      (match b env S1 with
        | .nx env' S' => sWhN c b n env' S'
        | .ct env' S' => sWhN c b n env' S'
        | .bk env' S' => .nx env' S'
        | r => r)
    else .nx env S1
@[irreducible] def WF : Nat := 2 ^ 4096
def sWh (c : T) (b : Sm) : Sm := sWhN c b WF
section
variable {X : Cx} {W : WS} {c : Expr} {body : List Stmt} {fc : T} {fb : Sm} {pos : Pos}
theorem fs_while (hp : PassesOwn (model X.prog X.w) X.A X.env X.xe) (hc : FT X W c fc) (hb : FSs X W body fb) : FS X W (.While c body [] pos) (sWh fc fb) := by
  refine ⟨PS.weak (ps_while hp hc.pt hb.pss) fun D σ H h => ?_⟩
  obtain ⟨ι, env, S, rep, er, p⟩ := h
  refine ⟨fun m σ H => ∃ ι env S, Rep (gm X) ι H S ∧ EnvR (gm X) ι H env σ ∧ PostS (gm X) W ι H (sWhN fc fb m env S) D, ⟨_, ι, env, S, rep, er, p⟩, ?_⟩
  rintro m σ H ⟨ι, env, S, rep, er, p⟩
  cases m with
  | zero => exact p.elim
  | succ n =>
    refine ⟨ι, env, S, rep, er, Post.imp (PostS.bind (Rel := RB) p) fun k H1 q => ?_⟩
    obtain ⟨k', S1, ι1, e1, rep1, rfl, q⟩ := q
    cases k' with
    | false => exact q σ H1 ι1 (Ext.refl _ _) rep1 (er.ext e1)
    | true =>
      rw [if_pos rfl] at q ⊢
      refine ⟨fun σ' H' => ∃ ι' env' S', Rep (gm X) ι' H' S' ∧ EnvR (gm X) ι' H' env' σ' ∧ PostS (gm X) W ι' H' (sWhN fc fb n env' S') D, fun σ' H' z => ⟨n, Nat.lt_succ_self n, z⟩, ι1, env, S1, rep1, er.ext e1, ?_⟩
      revert q
      cases fb env S1 with
      | nx env' S' => exact fun q σ' H' ι' e r er' => ⟨ι', env', S', r, er', PostS.mono e q⟩
      | ct env' S' => exact fun q σ' H' ι' e r er' => ⟨ι', env', S', r, er', PostS.mono e q⟩
      | bk env' S' => exact fun q => q
      | rt d S' => exact fun q => q
      | exc C fs S' => exact fun q => q
      | stuck => exact fun q => q
end

/-! ### what is walked -/
/-- at turn i, the store as it is: none: nothing is said; some none: the end -/
structure Src where
  get : Nat → Sto → Option (Option D)
  len : Nat
def SrcR (G : Gm) (ι : List Addr) (H : Hp) (s : Src) (J : It) : Prop := ∀ (i : Nat) (ι' : List Addr) (H' : Hp) (S' : Sto), Ext ι H ι' H' → Rep G ι' H' S' →
  (s.get i S' = some none → J.stop i H') ∧ ∀ d, s.get i S' = some (some d) → J.go i H' ∧ ∀ x H2, J.yld i H' x H2 → Ext ι' H' ι' H2 ∧ Rep G ι' H2 S' ∧ RV G ι' H2 d x
def tI (G : Gm) (W : WS) (f : EnvD → Sto → R Src) : TI := fun σ H Q => ∃ ι env S, Rep G ι H S ∧ EnvR G ι H env σ ∧ Post G (SrcR G) (fun c d H' => W c d σ H') ι H (f env S) Q
structure FI (X : Cx) (W : WS) (tg iter : Expr) (f : EnvD → Sto → R Src) : Prop where
  pi : PI X tg iter (tI (gm X) W f)
def cSeq (ds : List D) : Src := ⟨fun i _ => some ds[i]?, ds.length⟩
def cCell (n k : Nat) : Src := ⟨fun i S => match S[n]? with
  | some (.lst ds) => some ds[i]?
  | _ => none, k⟩
def srcOf (d : D) (S : Sto) : R Src := match d with
  | .tup ds => .ok (cSeq ds) S
  | .frl ds => .ok (cSeq ds) S
  | .str x => .ok (cSeq (x.map fun c => .str [c])) S
  | .ref n => match S[n]? with
    | some (.lst ds) => .ok (cCell n ds.length) S
    | _ => .stuck
  | _ => .stuck
def iOf (a : E) : EnvD → Sto → R Src := fun env S => (a env S).bind srcOf
section
variable {X : Cx} {W : WS} {e tg iter : Expr} {f : E} {pos : Pos}
theorem PI.weak {t t' : TI} (h : PI X tg e t) (k : ∀ σ H Q, t' σ H Q → t σ H Q) : PI X tg e t' := ⟨fun pins s σ H Q I q => h.run pins s σ H Q I (k σ H Q q)⟩
theorem PI.or {t t' : TI} (h : PI X tg e t) (h' : PI X tg e t') : PI X tg e (fun σ H Q => t σ H Q ∨ t' σ H Q) :=
  ⟨fun pins s σ H Q I q => by
    rcases q with q | q
    · exact h.run pins s σ H Q I q
    · exact h'.run pins s σ H Q I q⟩
theorem SrcR.mono {G : Gm} {ι ι1 : List Addr} {H H1 : Hp} {s : Src} {J : It} (x : Ext ι H ι1 H1) (h : SrcR G ι H s J) : SrcR G ι1 H1 s J := fun i ι' H' S' e r => h i ι' H' S' (x.trans e) r
theorem src_tup {G : Gm} {ι : List Addr} {H : Hp} {ds : List D} {vs : List V} {a : Addr} (h : SqT G.K H a vs) (rv : RVs G ι H ds vs) : SrcR G ι H (cSeq ds) (Itt G.K a) := fun i ι' H' S' e r => by
  have h' := sqT_ext e.toExt0 h
  have rv' := RVs.ext e _ _ rv
  refine ⟨fun q => ⟨vs, h', ?_⟩, fun d q => ?_⟩
  · have q' : ds[i]? = none := Option.some.inj q
    rw [← rv.length]
    exact List.getElem?_eq_none_iff.mp q'
  · have q' : ds[i]? = some d := Option.some.inj q
    obtain ⟨v, h1, h2⟩ := rv'.get q'
    refine ⟨⟨vs, v, h', h1⟩, fun x H2 y => ?_⟩
    obtain ⟨y1, y2⟩ := y
    subst y1
    have e2 : v = x := Option.some.inj (h1.symm.trans (y2 vs h'))
    subst e2
    exact ⟨Ext.refl _ _, r, h2⟩
theorem src_frl {G : Gm} {ι : List Addr} {H : Hp} {ds : List D} {vs : List V} {a : Addr} (h : SqF G.K H a vs) (rv : RVs G ι H ds vs) : SrcR G ι H (cSeq ds) (Itl G.K a) := fun i ι' H' S' e r => by
  have h' := (sqF_ext e.toExt0 h).sql
  have rv' := RVs.ext e _ _ rv
  refine ⟨fun q => ⟨vs, h', ?_⟩, fun d q => ?_⟩
  · have q' : ds[i]? = none := Option.some.inj q
    rw [← rv.length]
    exact List.getElem?_eq_none_iff.mp q'
  · have q' : ds[i]? = some d := Option.some.inj q
    obtain ⟨v, h1, h2⟩ := rv'.get q'
    refine ⟨⟨vs, v, h', h1⟩, fun x H2 y => ?_⟩
    obtain ⟨y1, y2⟩ := y
    subst y1
    have e2 : v = x := Option.some.inj (h1.symm.trans (y2 vs h'))
    subst e2
    exact ⟨Ext.refl _ _, r, h2⟩
theorem src_cell {G : Gm} {ι : List Addr} {H : Hp} {n k : Nat} {a : Addr} (h : ι[n]? = some a) : SrcR G ι H (cCell n k) (Itl G.K a) := fun i ι' H' S' e r => by
  have ha := e.pre n a h
  refine ⟨fun q => ?_, fun d q => ?_⟩
  · simp only [cCell] at q
    split at q
    · rename_i ds hds
      obtain ⟨vs, h1, h2⟩ := r.cell n _ a hds ha
      refine ⟨vs, .of h1, ?_⟩
      rw [← h2.length]
      exact List.getElem?_eq_none_iff.mp (Option.some.inj q)
    · cases q
  · simp only [cCell] at q
    split at q
    · rename_i ds hds
      obtain ⟨vs, h1, h2⟩ := r.cell n _ a hds ha
      obtain ⟨v, h3, h4⟩ := h2.get (Option.some.inj q)
      refine ⟨⟨vs, v, .of h1, h3⟩, fun x H2 y => ?_⟩
      obtain ⟨y1, y2⟩ := y
      subst y1
      have e2 : v = x := Option.some.inj (h3.symm.trans (y2 vs (.of h1)))
      subst e2
      exact ⟨Ext.refl _ _, r, h4⟩
    · cases q
theorem src_str {G : Gm} {ι : List Addr} {H : Hp} {x : List Nat} : SrcR G ι H (cSeq (x.map fun c => .str [c])) (Its ⟨x.toArray⟩) := fun i ι' H' S' e r => by
  refine ⟨fun q => ?_, fun d q => ?_⟩
  · have q' : (x.map fun c => D.str [c])[i]? = none := Option.some.inj q
    have := List.getElem?_eq_none_iff.mp q'
    show x.toArray.size ≤ i
    simpa using this
  · have q' : (x.map fun c => D.str [c])[i]? = some d := Option.some.inj q
    rw [List.getElem?_map] at q'
    obtain ⟨c, hc, rfl⟩ := Option.map_eq_some_iff.mp q'
    have hi : i < x.length := by
      rcases Nat.lt_or_ge i x.length with h | h
      · exact h
      · rw [List.getElem?_eq_none h] at hc; cases hc
    refine ⟨by show i < x.toArray.size; simpa using hi, fun v H2 y => ?_⟩
    obtain ⟨y1, c', y2, y3⟩ := y
    subst y1
    have y2' : x[i]? = some c' := by simpa using y2
    rw [hc] at y2'
    cases y2'
    exact ⟨Ext.refl _ _, r, y3⟩
theorem fi_of (he : FE X W e f) : FI X W tg e (iOf f) := by
  refine ⟨PI.weak (PI.or (PI.or (pi_tup he.pe) (pi_list he.pe)) (pi_str he.pe)) fun σ H Q h => ?_⟩
  obtain ⟨ι, env, S, rep, er, p⟩ := h
  have p0 : Post (gm X) (SrcR (gm X)) (fun c d H' => W c d σ H') ι H ((f env S).bind srcOf) Q := p
  cases hf : f env S with
  | stuck => rw [hf] at p0; exact p0.elim
  | exc C fs S' => exact .inl (.inl ⟨ι, env, S, rep, er, by rw [hf] at p0 ⊢; exact p0⟩)
  | ok d S' =>
    rw [hf] at p0
    cases d with
    | tup ds =>
      refine .inl (.inl ⟨ι, env, S, rep, er, ?_⟩)
      rw [hf]
      intro v H1 ι1 e1 r1 rv
      obtain ⟨a, vs, rfl, h1, h2⟩ := rv
      exact ⟨a, rfl, ⟨vs, h1⟩, p0 _ H1 ι1 e1 r1 (src_tup h1 h2)⟩
    | frl ds =>
      refine .inl (.inr ⟨ι, env, S, rep, er, ?_⟩)
      rw [hf]
      intro v H1 ι1 e1 r1 rv
      obtain ⟨a, vs, rfl, h1, h2⟩ := rv
      exact ⟨a, rfl, ⟨vs, h1.sql⟩, p0 _ H1 ι1 e1 r1 (src_frl h1 h2)⟩
    | str x =>
      refine .inr ⟨ι, env, S, rep, er, ?_⟩
      rw [hf]
      intro v H1 ι1 e1 r1 rv
      exact ⟨_, rv, p0 _ H1 ι1 e1 r1 src_str⟩
    | ref n =>
      refine .inl (.inr ⟨ι, env, S, rep, er, ?_⟩)
      rw [hf]
      intro v H1 ι1 e1 r1 rv
      obtain ⟨a, h1, rfl⟩ := rv
      have p1 : Post (gm X) (SrcR (gm X)) (fun c d H' => W c d σ H') ι H (srcOf (.ref n) S') Q := p0
      simp only [srcOf] at p1
      split at p1
      · rename_i ds hds
        obtain ⟨vs, h2, h3⟩ := r1.cell n _ a hds h1
        exact ⟨a, rfl, ⟨vs, .of h2⟩, p1 _ H1 ι1 e1 r1 (src_cell h1)⟩
      · exact p1.elim
    | _ => exact p0.elim
end

/-! ### range -/
/-- lo, lo + c, .. (n of them) -/
def intsD (lo c : Int) (n : Nat) : List D := (List.range n).map fun (k : Nat) => D.int (lo + (k : Int) * c)
def B62 (i : Int) : Bool := decide (-(2 ^ 62) ≤ i) && decide (i < 2 ^ 62)
def rng1 (ds : List D) (S : Sto) : R Src := match ds with
  | [.int j] => if B62 j = true then .ok (cSeq (intsD 0 1 j.toNat)) S else .stuck
  | _ => .stuck
def rng2 (ds : List D) (S : Sto) : R Src := match ds with
  | [.int i, .int j] => if B62 i = true ∧ B62 j = true then .ok (cSeq (intsD i 1 (j - i).toNat)) S else .stuck
  | _ => .stuck
def rng3 (ds : List D) (S : Sto) : R Src := match ds with
  | [.int i, .int j, .int c] => if c ≠ 0 ∧ c.natAbs < 1073741824 ∧ Builtin.Range.small i j c = true ∧ 0 ≤ Builtin.Range.rangeSize i j c then .ok (cSeq (intsD i c (Builtin.Range.rangeSize i j c).toNat)) S else .stuck
  | _ => .stuck
def iArg (g : List D → Sto → R Src) (fs : As) : EnvD → Sto → R Src := fun env S => (fs env S).bind g
theorem B62_lo {i : Int} (h : B62 i = true) : -(2 ^ 62) ≤ i ∧ i < 2 ^ 62 := by
  unfold B62 at h
  simpa using h
section
variable {X : Cx} {W : WS} {a b c tg : Expr} {fs : As} {p pos : Pos} {f : EnvD → Sto → R Src}
theorem src_ints {G : Gm} {ι : List Addr} {H : Hp} {lo c : Int} {n : Nat} {J : It} (h1 : ∀ i H', n ≤ i → J.stop i H') (h2 : ∀ i H', i < n → J.go i H') (h3 : ∀ i H' x H2, J.yld i H' x H2 → H2 = H' ∧ x = .int (lo + (i : Int) * c)) : SrcR G ι H (cSeq (intsD lo c n)) J := fun i ι' H' S' e r => by
  refine ⟨fun q => h1 i H' ?_, fun d q => ?_⟩
  · have := List.getElem?_eq_none_iff.mp (Option.some.inj q)
    simpa [intsD] using this
  · have q' : (intsD lo c n)[i]? = some d := Option.some.inj q
    unfold intsD at q'
    rw [List.getElem?_map] at q'
    obtain ⟨k, hk, rfl⟩ := Option.map_eq_some_iff.mp q'
    have hi : i < n := by
      rcases Nat.lt_or_ge i n with h | h
      · exact h
      · rw [List.getElem?_eq_none (by simpa using h)] at hk; cases hk
    rw [List.getElem?_range hi] at hk
    cases hk
    refine ⟨h2 i H' hi, fun x H2 y => ?_⟩
    obtain ⟨y1, y2⟩ := h3 i H' x H2 y
    subst y1
    exact ⟨Ext.refl _ _, r, y2⟩
theorem iarg_t {g : List D → Sto → R Src} {σ : L2.St} {H : Hp} {Q : It → Hp → Prop} {r : List V → Hp → (It → Hp → Prop) → Prop} (h : tI (gm X) W (iArg g fs) σ H Q)
    (k : ∀ ι H S ds vs, Rep (gm X) ι H S → RVs (gm X) ι H ds vs → Post (gm X) (SrcR (gm X)) (fun c d H' => W c d σ H') ι H (g ds S) Q → r vs H Q) : tA (gm X) W fs σ H fun vs H1 => r vs H1 Q := by
  obtain ⟨ι, env, S, rep, er, q⟩ := h
  refine ⟨ι, env, S, rep, er, Post.imp (Post.bind q) fun vs H1 q => ?_⟩
  obtain ⟨ds, S1, ι1, e1, rep1, rvs, q⟩ := q
  exact k ι1 H1 S1 ds vs rep1 rvs q
theorem fi_range1 (hm : X.mg "range" = none) (ha : FA X W [a] fs) (hg : Gl X "range" := by rfl) (hs : starEach [a] X.env = [(false, eval a X.env)] := by rfl) : FI X W tg (.Call (.Name "range" p) [a] [] pos) (iArg rng1 fs) := by
  refine ⟨PI.weak (pi_range1 hg hm ha.pa hs) fun σ H Q h => iarg_t (r := fun vs H1 R => ∃ j : Int, vs = [.int j] ∧ -(2 ^ 62) ≤ j ∧ j < 2 ^ 62 ∧ R (Itr 0 j.toNat) H1) h fun ι H S ds vs rep rvs q => ?_⟩
  unfold rng1 at q
  split at q
  · rename_i j
    split at q
    · rename_i hj
      obtain ⟨v, vr, rfl, r1, r2⟩ := rvs
      have e1 : v = .int j := r1
      have e2 : vr = [] := r2
      subst e1 e2
      exact ⟨j, rfl, (B62_lo hj).1, (B62_lo hj).2, q _ H ι (Ext.refl _ _) rep (src_ints (fun i H' h => h) (fun i H' h => h) fun i H' x H2 y => ⟨y.1, by rw [Int.mul_one]; exact y.2⟩)⟩
    · exact q.elim
  · exact q.elim
theorem fi_range2 (hm : X.mg "range" = none) (ha : FA X W [a, b] fs) (hg : Gl X "range" := by rfl) (hs : starEach [a, b] X.env = [(false, eval a X.env), (false, eval b X.env)] := by rfl) (hs2 : starEach [b] X.env = [(false, eval b X.env)] := by rfl) : FI X W tg (.Call (.Name "range" p) [a, b] [] pos) (iArg rng2 fs) := by
  refine ⟨PI.weak (pi_range2 hg hm ha.pa hs hs2) fun σ H Q h => iarg_t (r := fun vs H1 R => ∃ i j : Int, vs = [.int i, .int j] ∧ (-(2 ^ 62) ≤ i ∧ i < 2 ^ 62 ∧ -(2 ^ 62) ≤ j ∧ j < 2 ^ 62) ∧ R (Itr i (j - i).toNat) H1) h fun ι H S ds vs rep rvs q => ?_⟩
  unfold rng2 at q
  split at q
  · rename_i i j
    split at q
    · rename_i hj
      obtain ⟨v, vr, rfl, r1, r2⟩ := rvs
      obtain ⟨u, vr', rfl, r3, r4⟩ := r2
      have e1 : v = .int i := r1
      have e2 : u = .int j := r3
      have e3 : vr' = [] := r4
      subst e1 e2 e3
      exact ⟨i, j, rfl, ⟨(B62_lo hj.1).1, (B62_lo hj.1).2, (B62_lo hj.2).1, (B62_lo hj.2).2⟩, q _ H ι (Ext.refl _ _) rep (src_ints (fun i H' h => h) (fun i H' h => h) fun i H' x H2 y => ⟨y.1, by rw [Int.mul_one]; exact y.2⟩)⟩
    · exact q.elim
  · exact q.elim
theorem fi_range3 (hm : X.mg "range" = none) (ha : FA X W [a, b, c] fs) (hg : Gl X "range" := by rfl) (hs : starEach [a, b, c] X.env = (false, eval a X.env) :: starEach [b, c] X.env := by rfl) (hpl : (backTo pos (starEach [b, c] X.env)).any (·.1) = false := by rfl) : FI X W tg (.Call (.Name "range" p) [a, b, c] [] pos) (iArg rng3 fs) := by
  refine ⟨PI.weak (pi_range3 hg hm ha.pa hs hpl) fun σ H Q h => iarg_t (r := fun vs H1 R => ∃ (i j c : Int) (n : Nat), vs = [.int i, .int j, .int c] ∧ RgC i j c n ∧ R (Itc i c n) H1) h fun ι H S ds vs rep rvs q => ?_⟩
  unfold rng3 at q
  split at q
  · rename_i i j c
    split at q
    · rename_i hj
      obtain ⟨v, vr, rfl, r1, r2⟩ := rvs
      obtain ⟨u, vr', rfl, r3, r4⟩ := r2
      obtain ⟨w, vr'', rfl, r5, r6⟩ := r4
      have e1 : v = .int i := r1
      have e2 : u = .int j := r3
      have e3 : w = .int c := r5
      have e4 : vr'' = [] := r6
      subst e1 e2 e3 e4
      exact ⟨i, j, c, _, rfl, ⟨hj.1, hj.2.1, hj.2.2.1, (Int.toNat_of_nonneg hj.2.2.2).symm⟩, q _ H ι (Ext.refl _ _) rep (src_ints (fun i H' h => h) (fun i H' h => h) fun i H' x H2 y => y)⟩
    · exact q.elim
  · exact q.elim
end

/-! ### for -/
def sForN (s : Src) (g : Tg) (b : Sm) : Nat → Nat → Sm
  | 0, i => fun env S => match s.get i S with
    | some none => .nx env S
    | _ => .stuck
  | k + 1, i => fun env S => match s.get i S with
    | some none => .nx env S
    | some (some d) => (g d env S).fl0 fun env1 S1 => (match b env1 S1 with
        | .nx env' S' => sForN s g b k (i + 1) env' S'
        | .ct env' S' => sForN s g b k (i + 1) env' S'
        | .bk env' S' => .nx env' S'
        | r => r)
    | none => .stuck
def sFor (f : EnvD → Sto → R Src) (g : Tg) (b : Sm) : Sm := fun env S => (f env S).fl fun s S1 => sForN s g b s.len 0 env S1
section
variable {X : Cx} {W : WS} {tg iter : Expr} {body : List Stmt} {f : EnvD → Sto → R Src} {g : Tg} {fb : Sm} {pos : Pos} {ws : List Nat}
theorem fs_for (hp : PassesOwn (model X.prog X.w) X.A X.env X.xe) (hc : X.calm = true) (hi : FI X W tg iter f) (hg : FG X ws tg g) (hb : FSs X W body fb)
    (hs : ∀ x, foldedSetIterable iter X.env x = pure x := by intro _; rfl) : FS X W (.For tg iter body [] pos) (sFor f g fb) := by
  refine ⟨PS.weak (ps_for hp hc hi.pi hg.pg hb.pss hs) fun D σ H h => ?_⟩
  obtain ⟨ι, env, S, rep, er, p⟩ := h
  refine ⟨ι, env, S, rep, er, Post.imp (PostS.bind p) fun J H1 q => ?_⟩
  obtain ⟨s, S1, ι1, e1, rep1, sr, q⟩ := q
  refine ⟨fun i m σ H => ∃ ι env S, Ext ι1 H1 ι H ∧ Rep (gm X) ι H S ∧ EnvR (gm X) ι H env σ ∧ PostS (gm X) W ι H (sForN s g fb m i env S) D, ⟨s.len, ι1, env, S1, Ext.refl _ _, rep1, er.ext e1, q⟩, ?_⟩
  rintro i m σ H ⟨ι, env, S, ex, rep, er, p⟩
  obtain ⟨hstop, hgo⟩ := sr i ι H S ex rep
  cases m with
  | zero =>
    unfold sForN at p
    split at p
    · rename_i hq
      exact .inl ⟨hstop hq, p σ H ι (Ext.refl _ _) rep er⟩
    · exact p.elim
  | succ k =>
    unfold sForN at p
    split at p
    · rename_i hq
      exact .inl ⟨hstop hq, p σ H ι (Ext.refl _ _) rep er⟩
    · rename_i d hq
      obtain ⟨go, yl⟩ := hgo d hq
      refine .inr ⟨go, fun σ' H' => ∃ ι' env' S', Ext ι1 H1 ι' H' ∧ Rep (gm X) ι' H' S' ∧ EnvR (gm X) ι' H' env' σ' ∧ PostS (gm X) W ι' H' (sForN s g fb k (i + 1) env' S') D, fun σ' H' z => ⟨k, Nat.lt_succ_self k, z⟩, fun x H2 hy => ?_⟩
      obtain ⟨ex2, rep2, rv⟩ := yl x H2 hy
      refine ⟨ι, env, S, d, rep2, er.ext ex2, rv, Post.imp (PostS.bind0 (Rel := EW (gm X) ws σ) (PostS.mono ex2 p)) fun σ3 H3 q3 => ?_⟩
      obtain ⟨env3, S3, ι3, e3, rep3, er3, q3⟩ := q3
      refine ⟨ι3, env3, S3, rep3, er3.1, ?_⟩
      have ex3 := (ex.trans ex2).trans e3
      revert q3
      cases fb env3 S3 with
      | nx env' S' => exact fun q3 σ' H' ι' e r er' => ⟨ι', env', S', ex3.trans e, r, er', PostS.mono e q3⟩
      | ct env' S' => exact fun q3 σ' H' ι' e r er' => ⟨ι', env', S', ex3.trans e, r, er', PostS.mono e q3⟩
      | bk env' S' => exact fun q3 => q3
      | rt d S' => exact fun q3 => q3
      | exc C fs S' => exact fun q3 => q3
      | stuck => exact fun q3 => q3
    · exact p.elim
end

/-! ### comprehensions -/
def wipeD (env : EnvD) : List Nat → EnvD
  | [] => env
  | v :: vs => (wipeD env vs).set v none
theorem wipeR {G : Gm} {ι : List Addr} {H : Hp} {env : EnvD} {σ : L2.St} (h : EnvR G ι H env σ) : ∀ vs : List Nat, EnvR G ι H (wipeD env vs) (wipe σ vs)
  | [] => h
  | v :: vs => by
    have ih := wipeR h vs
    refine ⟨by unfold wipeD wipe; simp [ih.len], fun j d q => ?_⟩
    unfold wipeD at q
    unfold wipe
    by_cases hj : v = j
    · subst hj
      by_cases hl : v < (wipeD env vs).length
      · rw [List.getElem?_set_self hl] at q; cases q
      · rw [List.getElem?_eq_none (by simpa using hl)] at q; cases q
    · rw [List.getElem?_set_ne hj] at q ⊢
      exact ih.at_ j d q
def tYesD : T := fun _ S => .ok true S
/-- the elements -/
def lcN (s : Src) (g : Tg) (t : T) (e : E) (env : EnvD) : Nat → Nat → List D → Sto → R (List D)
  | 0, i => fun acc S => match s.get i S with
    | some none => .ok acc S
    | _ => .stuck
  | k + 1, i => fun acc S => match s.get i S with
    | some none => .ok acc S
    | some (some d) => (g d env S).bind fun env1 S1 => (t env1 S1).bind fun b S2 =>
        if b = true then (e env1 S2).bind fun y S3 => if acc.length < LINE then lcN s g t e env k (i + 1) (acc ++ [y]) S3 else .stuck
        else lcN s g t e env k (i + 1) acc S2
    | none => .stuck
def R.nox {α : Type} (r : R α) : R α := match r with
  | .ok a S => .ok a S
  | _ => .stuck
@[simp] theorem nox_ok {α : Type} (a : α) (S : Sto) : (R.ok a S).nox = .ok a S := rfl
@[simp] theorem nox_stuck {α : Type} : (R.stuck : R α).nox = .stuck := rfl
theorem nox_bind {α β : Type} (r : R α) (k : α → Sto → R β) : (r.bind k).nox = r.nox.bind fun a S => (k a S).nox := by cases r <;> rfl
def mkLst (ds : List D) (S : Sto) : R D := .ok (.ref S.length) (S ++ [.lst ds])
def eLc (f : EnvD → Sto → R Src) (g : Tg) (t : T) (e : E) (vs : List Nat) : E := fun env S => (f env S).bind fun s S1 => ((lcN s g t e (wipeD env vs) s.len 0 [] S1).nox).bind mkLst
section
variable {X : Cx} {W : WS}
theorem Post.bindB {G : Gm} {α β α' β' : Type} {Rel : List Addr → Hp → α → β → Prop} {Rel' : List Addr → Hp → α' → β' → Prop} {W : WP} {ι : List Addr} {H : Hp} {r : R α} {k : α → Sto → R α'} {Q : β' → Hp → Prop} (h : Post G Rel' W ι H (r.bind k) Q) :
    Post G Rel W ι H r (fun v H' => ∃ d S' ι', Ext ι H ι' H' ∧ Rep G ι' H' S' ∧ Rel ι' H' d v ∧ Post G Rel' W ι H (k d S') Q) := by
  cases r with
  | ok d S' => exact fun v H' ι' e p q => ⟨d, S', ι', e, p, q, h⟩
  | exc C fs S' => exact h
  | stuck => exact h
theorem Post.bindM {G : Gm} {α β α' β' : Type} {Rel : List Addr → Hp → α → β → Prop} {Rel' : List Addr → Hp → α' → β' → Prop} {W : WP} {ι ι1 : List Addr} {H H1 : Hp} {r : R α} {k : α → Sto → R α'} {Q : β' → Hp → Prop} (x : Ext ι H ι1 H1) (h : Post G Rel' W ι H (r.bind k) Q) :
    Post G Rel W ι1 H1 r (fun v H' => ∃ d S' ι', Ext ι1 H1 ι' H' ∧ Rep G ι' H' S' ∧ Rel ι' H' d v ∧ Post G Rel' W ι H (k d S') Q) := by
  cases r with
  | ok d S' => exact fun v H' ι' e p q => ⟨d, S', ι', e, p, q, h⟩
  | exc C fs S' => exact fun c dx fv H' ι' m e p q z => h c dx fv H' ι' m (x.trans e) p q z
  | stuck => exact h
theorem wipe_get {σ : L2.St} {i : Nat} : ∀ vs : List Nat, (wipe σ vs)[i]? = if i ∈ vs ∧ i < σ.length then some none else σ[i]?
  | [] => by simp [wipe]
  | v :: vs => by
    unfold wipe
    have ih := wipe_get (σ := σ) (i := i) vs
    by_cases hv : v = i
    · subst hv
      by_cases hl : v < σ.length
      · rw [List.getElem?_set_self (by rw [wipe_length]; exact hl)]
        simp [hl]
      · rw [List.getElem?_eq_none (by rw [List.length_set, wipe_length]; omega), if_neg (by simp [hl]), List.getElem?_eq_none (by omega)]
    · rw [List.getElem?_set_ne hv, ih]
      have : (i ∈ v :: vs ∧ i < σ.length) ↔ (i ∈ vs ∧ i < σ.length) := by
        simp only [List.mem_cons]
        constructor
        · rintro ⟨h | h, h2⟩
          · exact absurd h.symm hv
          · exact ⟨h, h2⟩
        · rintro ⟨h, h2⟩
          exact ⟨.inr h, h2⟩
      simp only [this]
theorem wipe_idem (σ : L2.St) (vs : List Nat) : wipe (wipe σ vs) vs = wipe σ vs := by
  apply List.ext_getElem?
  intro i
  rw [wipe_get, wipe_get, wipe_length]
  by_cases h : i ∈ vs ∧ i < σ.length
  · simp only [if_pos h]
  · simp only [if_neg h]
theorem Post.unnox {G : Gm} {α β : Type} {Rel : List Addr → Hp → α → β → Prop} {W W' : WP} {ι : List Addr} {H : Hp} {r : R α} {Q : β → Hp → Prop} (h : Post G Rel W ι H r.nox Q) : Post G Rel W' ι H r Q := by
  cases r with
  | ok d S' => exact h
  | exc C fs S' => exact h.elim
  | stuck => exact h
/-- nothing is raised within -/
theorem lc_t {G : Gm} {f : EnvD → Sto → R Src} {g : Tg} {t : T} {e : E} {vs : List Nat} {σ : L2.St} {H : Hp} {Q : VK} {wi : TI} {tg : TG} {tt : TT} {te : TE} (h : tE G W (eLc f g t e vs) σ H Q)
    (hi : ∀ σ H Q, tI G W f σ H Q → wi σ H Q) (hg : ∀ v σ H Q, tGd G vs g v σ H Q → tg v σ H Q) (ht : ∀ σ H Q, tT G (fun _ _ _ _ => False) t σ H Q → tt σ H Q) (he : ∀ σ H Q, tE G (fun _ _ _ _ => False) e σ H Q → te σ H Q) : tLc wi tg tt te vs σ H Q := by
  obtain ⟨ι, env, S, rep, er, p⟩ := h
  refine hi σ H _ ⟨ι, env, S, rep, er, Post.imp (Post.bind p) fun J H1 q => ?_⟩
  obtain ⟨s, S1, ι1, e1, rep1, sr, q⟩ := q
  have er1 := er.ext e1
  intro D hD
  have hw := wipeR er1 vs
  have xD : Ext ι1 H1 ι1 (upd H1 D (.lst [])) := ext_upd hD
  refine ⟨fun i m Hh => ∃ ι S acc accV, Ext ι1 H1 ι Hh ∧ Rep G ι Hh S ∧ Hh D = some (.lst accV) ∧ (∀ i : Nat, ι[i]? ≠ some D) ∧ RVs G ι Hh acc accV ∧ Post G (RV G) (fun c d H' => W c d σ H') ι1 H1 (((lcN s g t e (wipeD env vs) m i acc S).nox).bind mkLst) Q,
    ⟨s.len, ι1, S1, [], [], xD, rep1.other hD, upd_same, rep1.fresh hD, rfl, q⟩, ?_⟩
  rintro i m Hh ⟨ι2, S2, acc, accV, ex, rep2, hDD, hno, racc, p⟩
  obtain ⟨hstop, hgo⟩ := sr i ι2 Hh S2 ex rep2
  have fin : ∀ {r : R (List Fz.D)}, s.get i S2 = some none → r = .ok acc S2 → Post G (RV G) (fun c d H' => W c d σ H') ι1 H1 (r.nox.bind mkLst) Q → Q (.ref D) Hh := fun {r} _ er p => by
    rw [er] at p
    have x0 : Ext0 ι2 Hh (ι2 ++ [D]) Hh := ⟨fun i a e => by
      have hi : i < ι2.length := by
        rcases Nat.lt_or_ge i ι2.length with h' | h'
        · exact h'
        · rw [List.getElem?_eq_none h'] at e; cases e
      rw [List.getElem?_append_left hi]; exact e, fun _ _ e => e, fun _ _ _ e => e, fun _ _ e => e⟩
    refine p (.ref D) Hh (ι2 ++ [D]) ⟨⟨fun i a e => x0.pre i a (ex.pre i a e), ex.tups, ex.frzs, ex.exts⟩, ex.keep, ex.alive, fun i a e => ?_⟩ (rep2.take_in hno ⟨accV, hDD, RVs.ext0 x0 _ _ racc⟩) ⟨D, by rw [← rep2.len]; simp, rfl⟩
    rcases get_push e with z | ⟨_, z⟩
    · exact ex.new i a z
    · exact .inr (z ▸ hD)
  cases m with
  | zero =>
    unfold lcN at p
    split at p
    · rename_i hq
      exact .inl ⟨hstop hq, fin hq rfl p⟩
    · exact p.elim
  | succ k =>
    unfold lcN at p
    split at p
    · rename_i hq
      exact .inl ⟨hstop hq, fin hq rfl p⟩
    · rename_i d hq
      obtain ⟨go, yl⟩ := hgo d hq
      refine .inr ⟨go, fun Hh => ∃ ι S acc accV, Ext ι1 H1 ι Hh ∧ Rep G ι Hh S ∧ Hh D = some (.lst accV) ∧ (∀ i : Nat, ι[i]? ≠ some D) ∧ RVs G ι Hh acc accV ∧ Post G (RV G) (fun c d H' => W c d σ H') ι1 H1 (((lcN s g t e (wipeD env vs) k (i + 1) acc S).nox).bind mkLst) Q, fun H' z => ⟨k, Nat.lt_succ_self k, z⟩, fun x H3 hy => ?_⟩
      obtain ⟨ex3, rep3, rv⟩ := yl x H3 hy
      have ex13 := ex.trans ex3
      have hD3 := ex3.keep D _ hDD hno (fun _ z => nomatch z)
      have racc3 := RVs.ext ex3 _ _ racc
      refine hg x _ H3 _ ⟨ι2, wipeD env vs, S2, d, rep3, (wipeR er1 vs).ext ex13, rv, ?_⟩
      simp only [nox_bind, bind_assoc] at p
      refine Post.unnox (Post.imp (Post.bindM (Rel := EW G vs (wipe σ vs)) ex13 p) fun σ4 H4 q4 => ?_)
      obtain ⟨env4, S4, ι4, e4, rep4, er4, p⟩ := q4
      have ex14 := ex13.trans e4
      have hno3 := ex3.out hDD hno
      have hD4 := e4.keep D _ hD3 hno3 (fun _ z => nomatch z)
      have hno4 := e4.out hD3 hno3
      have racc4 := RVs.ext e4 _ _ racc3
      refine ⟨by rw [er4.2, wipe_idem], ht σ4 H4 _ ⟨ι4, env4, S4, rep4, er4.1, Post.unnox (Post.imp (Post.bindM (Rel := RB) ex14 p) fun b H5 q5 => ?_)⟩⟩
      obtain ⟨b', S5, ι5, e5, rep5, rfl, p⟩ := q5
      have ex15 := ex14.trans e5
      have hD5 := e5.keep D _ hD4 hno4 (fun _ z => nomatch z)
      have hno5 := e5.out hD4 hno4
      have racc5 := RVs.ext e5 _ _ racc4
      cases b' with
      | false =>
        rw [if_neg (by simp)] at p ⊢
        exact ⟨ι5, S5, acc, accV, ex15, rep5, hD5, hno5, racc5, p⟩
      | true =>
        rw [if_pos rfl] at p ⊢
        simp only [nox_bind, bind_assoc] at p
        refine he σ4 H5 _ ⟨ι5, env4, S5, rep5, er4.1.ext e5, Post.unnox (Post.imp (Post.bindM (Rel := RV G) ex15 p) fun y H6 q6 => ?_)⟩
        obtain ⟨dy, S6, ι6, e6, rep6, ry, p⟩ := q6
        have ex16 := ex15.trans e6
        have hD6 := e6.keep D _ hD5 hno5 (fun _ z => nomatch z)
        have hno6 := e6.out hD5 hno5
        have racc6 := RVs.ext e6 _ _ racc5
        split at p
        · rename_i hl
          refine ⟨accV, hD6, by rw [← racc6.length, ← line_eq]; exact hl, ι6, S6, acc ++ [dy], accV ++ [y], ⟨⟨ex16.pre, fun a xs q => ?_, fun a o u q => ?_, fun a f q => ?_⟩, fun a o q n t => ?_, fun a o q n => ?_, ex16.new⟩, rep6.off hD6 hno6, upd_same, hno6, RVs.ext0 (ext0_off hD6) _ _ (RVs.append racc6 (RVs.one ry)), p⟩
          · rw [upd_ne (fun z => by rw [z, hD] at q; cases q)]; exact ex16.tups a xs q
          · rw [upd_ne (fun z => by rw [z, hD] at q; cases q)]; exact ex16.frzs a o u q
          · rw [upd_ne (fun z => by rw [z, hD] at q; cases q)]; exact ex16.exts a f q
          · rw [upd_ne (fun z => by rw [z, hD] at q; cases q)]; exact ex16.keep a o q n t
          · rw [upd_ne (fun z => by rw [z, hD] at q; cases q)]; exact ex16.alive a o q n
        · exact p.elim
    · exact p.elim
variable {elt tg iter c : Expr} {f : EnvD → Sto → R Src} {g : Tg} {t : T} {e : E} {scope : Scope} {own : List (Str × Nat)} {pos : Pos}
abbrev BX (X : Cx) (scope : Scope) : Cx → Prop := fun Y => ∃ (s : Shared) (H : Hp) (C : Addr) (cl : List (Str × Addr)) (fp : List Addr), Y = X.blk s H scope (compEnvC scope cl C X.env) fp
theorem fe_lc (hc : X.calm = true) (hN : X.N.Nodup) (hi : FI X W tg iter f) (ok : blkC X.N X.env.scope scope own = true)
    (hg : ∀ (s : Shared) (H : Hp) (C : Addr) (cl : List (Str × Addr)) (fp : List Addr), FG (X.blk s H scope (compEnvC scope cl C X.env) fp) (own.map (·.2)) tg g)
    (he : ∀ (s : Shared) (H : Hp) (C : Addr) (cl : List (Str × Addr)) (fp : List Addr), FE (X.blk s H scope (compEnvC scope cl C X.env) fp) (fun _ _ _ _ => False) elt e) (hs : ∀ x, foldedSetIterable iter X.env x = pure x := by intro _; rfl) :
    FE X W (.ListComp elt [⟨tg, iter, [], 0⟩] scope pos) (eLc f g tYesD e (own.map (·.2))) :=
  ⟨PE.weak (pe_lc (own := own) hc hN hi.pi (blkOk_by ok) (fun s H C cl fp => (hg s H C cl fp).pg) (fun _ _ _ _ _ => pts_nil) (fun s H C cl fp => (he s H C cl fp).pe) hs) fun σ H Q h =>
    lc_t h (fun _ _ _ q => q) (fun _ _ _ _ q => q) (fun σ H Q q => by obtain ⟨ι, env, S, rep, er, p⟩ := q; exact p true H ι (Ext.refl _ _) rep rfl) fun _ _ _ q => q⟩
theorem fe_lcIf (hc : X.calm = true) (hN : X.N.Nodup) (hi : FI X W tg iter f) (ok : blkC X.N X.env.scope scope own = true)
    (hg : ∀ (s : Shared) (H : Hp) (C : Addr) (cl : List (Str × Addr)) (fp : List Addr), FG (X.blk s H scope (compEnvC scope cl C X.env) fp) (own.map (·.2)) tg g)
    (ht : ∀ (s : Shared) (H : Hp) (C : Addr) (cl : List (Str × Addr)) (fp : List Addr), FT (X.blk s H scope (compEnvC scope cl C X.env) fp) (fun _ _ _ _ => False) c t)
    (he : ∀ (s : Shared) (H : Hp) (C : Addr) (cl : List (Str × Addr)) (fp : List Addr), FE (X.blk s H scope (compEnvC scope cl C X.env) fp) (fun _ _ _ _ => False) elt e) (hs : ∀ x, foldedSetIterable iter X.env x = pure x := by intro _; rfl) :
    FE X W (.ListComp elt [⟨tg, iter, [c], 0⟩] scope pos) (eLc f g t e (own.map (·.2))) :=
  ⟨PE.weak (pe_lc (own := own) hc hN hi.pi (blkOk_by ok) (fun s H C cl fp => (hg s H C cl fp).pg) (fun s H C cl fp => pts_one (ht s H C cl fp).pt) (fun s H C cl fp => (he s H C cl fp).pe) hs) fun σ H Q h =>
    lc_t h (fun _ _ _ q => q) (fun _ _ _ _ q => q) (fun _ _ _ q => q) fun _ _ _ q => q⟩
/-- y = [..] -/
theorem fs_lc {i : Nat} {y : Str} {py spos : Pos} {ws : List Nat} (hc : X.calm = true) (hN : X.N.Nodup) (hyl : X.env.scope.names.lookup y = some .local) (hi : FI X W tg iter f) (ok : blkC X.N X.env.scope scope own = true)
    (hg : ∀ (s : Shared) (H : Hp) (C : Addr) (cl : List (Str × Addr)) (fp : List Addr), FG (X.blk s H scope (compEnvC scope cl C X.env) fp) (own.map (·.2)) tg g)
    (he : ∀ (s : Shared) (H : Hp) (C : Addr) (cl : List (Str × Addr)) (fp : List Addr), FE (X.blk s H scope (compEnvC scope cl C X.env) fp) (fun _ _ _ _ => False) elt e)
    (hy : X.N[i]? = some y := by rfl) (hk : X.env.scope.kind = .function := by rfl) (hl : (py.line == pos.line) = true := by rfl) (ha : (scope.names.any fun (n, k) => n == y && (k == .local || k == .cell)) = false := by decide +kernel) (hs : ∀ x, foldedSetIterable iter X.env x = pure x := by intro _; rfl) :
    FS X W (.Assign [.Name y py] (.ListComp elt [⟨tg, iter, [], 0⟩] scope pos) spos) (sAsg (eLc f g tYesD e (own.map (·.2))) (gNm i)) :=
  ⟨PS.weak (ps_setLc (own := own) hc hN hy hyl (sw_true hk hyl hl ha) hi.pi (blkOk_by ok) (fun s H C cl fp => (hg s H C cl fp).pg) (fun _ _ _ _ _ => pts_nil) (fun s H C cl fp => (he s H C cl fp).pe) hs) fun D σ H h => by
    obtain ⟨ι, env, S, rep, er, p⟩ := h
    refine lc_t (W := W) ⟨ι, env, S, rep, er, Post.imp (PostS.bind p) fun v H1 q => ?_⟩ (fun _ _ _ q => q) (fun _ _ _ _ q => q) (fun σ H Q q => by obtain ⟨ι, env, S, rep, er, p⟩ := q; exact p true H ι (Ext.refl _ _) rep rfl) fun _ _ _ q => q
    obtain ⟨d, S1, ι1, e1, rep1, rv, q⟩ := q
    exact q _ H1 ι1 (Ext.refl _ _) rep1 ((er.ext e1).set i rv)⟩
theorem fs_lcIf {i : Nat} {y : Str} {py spos : Pos} {ws : List Nat} (hc : X.calm = true) (hN : X.N.Nodup) (hyl : X.env.scope.names.lookup y = some .local) (hi : FI X W tg iter f) (ok : blkC X.N X.env.scope scope own = true)
    (hg : ∀ (s : Shared) (H : Hp) (C : Addr) (cl : List (Str × Addr)) (fp : List Addr), FG (X.blk s H scope (compEnvC scope cl C X.env) fp) (own.map (·.2)) tg g)
    (ht : ∀ (s : Shared) (H : Hp) (C : Addr) (cl : List (Str × Addr)) (fp : List Addr), FT (X.blk s H scope (compEnvC scope cl C X.env) fp) (fun _ _ _ _ => False) c t)
    (he : ∀ (s : Shared) (H : Hp) (C : Addr) (cl : List (Str × Addr)) (fp : List Addr), FE (X.blk s H scope (compEnvC scope cl C X.env) fp) (fun _ _ _ _ => False) elt e)
    (hy : X.N[i]? = some y := by rfl) (hk : X.env.scope.kind = .function := by rfl) (hl : (py.line == pos.line) = true := by rfl) (ha : (scope.names.any fun (n, k) => n == y && (k == .local || k == .cell)) = false := by decide +kernel) (hs : ∀ x, foldedSetIterable iter X.env x = pure x := by intro _; rfl) :
    FS X W (.Assign [.Name y py] (.ListComp elt [⟨tg, iter, [c], 0⟩] scope pos) spos) (sAsg (eLc f g t e (own.map (·.2))) (gNm i)) :=
  ⟨PS.weak (ps_setLc (own := own) hc hN hy hyl (sw_true hk hyl hl ha) hi.pi (blkOk_by ok) (fun s H C cl fp => (hg s H C cl fp).pg) (fun s H C cl fp => pts_one (ht s H C cl fp).pt) (fun s H C cl fp => (he s H C cl fp).pe) hs) fun D σ H h => by
    obtain ⟨ι, env, S, rep, er, p⟩ := h
    refine lc_t (W := W) ⟨ι, env, S, rep, er, Post.imp (PostS.bind p) fun v H1 q => ?_⟩ (fun _ _ _ q => q) (fun _ _ _ _ q => q) (fun _ _ _ q => q) fun _ _ _ q => q
    obtain ⟨d, S1, ι1, e1, rep1, rv, q⟩ := q
    exact q _ H1 ι1 (Ext.refl _ _) rep1 ((er.ext e1).set i rv)⟩
end
end Fz

/-! Fz5: what the operators and the built-ins do with values. -/
namespace Fz
open PySem PySem.Spec PyProof.Rows L2

/-! ### numbers -/
def mulOk (i j : Int) : Prop := CMulW i j ∨ CMul i j
instance (i j : Int) : Decidable (mulOk i j) := by unfold mulOk CMulW CMul; infer_instance
instance (i j : Int) : Decidable (CPow i j) := by unfold CPow; infer_instance
def divOk (j : Int) : Prop := 0 < j ∧ j.natAbs.log2 < 9000
instance (j : Int) : Decidable (divOk j) := by unfold divOk; infer_instance
def vMul : D → D → Sto → R D
  | .int i, .int j, S => if mulOk i j then .ok (.int (i * j)) S else .stuck
  | .str x, .int k, S => if 0 ≤ k ∧ k < 2 ^ 62 ∧ x.length * k.toNat ≤ LINE then .ok (.str (List.replicate k.toNat x).flatten) S else .stuck
  | _, _, _ => .stuck
def vMulI : D → D → Sto → R D
  | .int i, .int j, S => if mulOk i j then .ok (.int (i * j)) S else .stuck
  | _, _, _ => .stuck
def vAdd : D → D → Sto → R D
  | .int i, .int j, S => .ok (.int (i + j)) S
  | .str x, .str y, S => if x.length + y.length ≤ LINE then .ok (.str (x ++ y)) S else .stuck
  | .tup x, .tup y, S => if x.length + y.length ≤ LINE then .ok (.tup (x ++ y)) S else .stuck
  | .ref m, .ref n, S => match S[m]?, S[n]? with
    | some (.lst x), some (.lst y) => if x.length + y.length ≤ LINE then .ok (.ref S.length) (S ++ [.lst (x ++ y)]) else .stuck
    | _, _ => .stuck
  | _, _, _ => .stuck
def vSub : D → D → Sto → R D
  | .int i, .int j, S => .ok (.int (i - j)) S
  | _, _, _ => .stuck
def vDiv : D → D → Sto → R D
  | .int i, .int j, S => if divOk j then .ok (.int (i / j)) S else .stuck
  | _, _, _ => .stuck
def vMod : D → D → Sto → R D
  | .int i, .int j, S => if 0 < j then .ok (.int (i % j)) S else .stuck
  | _, _, _ => .stuck
def vPow : D → D → Sto → R D
  | .int i, .int j, S => if CPow i j then .ok (.int (i ^ j.toNat)) S else .stuck
  | _, _, _ => .stuck
def vShl : D → D → Sto → R D
  | .int i, .int j, S => if CPow i j then .ok (.int (i * 2 ^ j.toNat)) S else .stuck
  | _, _, _ => .stuck
def vShr : D → D → Sto → R D
  | .int i, .int j, S => if 0 ≤ j then .ok (.int (i / 2 ^ j.toNat)) S else .stuck
  | _, _, _ => .stuck
def vAnd : D → D → Sto → R D
  | .int i, .int j, S => .ok (.int (Builtin.bitAnd i j)) S
  | _, _, _ => .stuck
def vNeg : D → Sto → R D
  | .int i, S => .ok (.int (-i)) S
  | _, _ => .stuck
section
variable {X : Cx}
/-- ints alone -/
theorem v2_int {C : Int → Int → Prop} {g : Int → Int → Int} [∀ i j, Decidable (C i j)] {f : D → D → Sto → R D} (h1 : ∀ i j S, f (.int i) (.int j) S = if C i j then .ok (.int (g i j)) S else .stuck) (h2 : ∀ d e S, f d e S ≠ .stuck → (∃ i j, d = .int i ∧ e = .int j)) {G : Gm} : V2 G f (rI C fun i j => .int (g i j)) := by
  intro W ι H S d e v u Q rep r1 r2 p
  have ne : f d e S ≠ .stuck := fun z => by rw [z] at p; exact p
  obtain ⟨i, j, rfl, rfl⟩ := h2 d e S ne
  rw [h1] at p
  split at p
  · rename_i hc
    exact ⟨i, j, r1, r2, hc, p _ H ι (Ext.refl _ _) rep rfl⟩
  · exact p.elim
theorem v2_int0 {g : Int → Int → Int} {f : D → D → Sto → R D} (h1 : ∀ i j S, f (.int i) (.int j) S = .ok (.int (g i j)) S) (h2 : ∀ d e S, f d e S ≠ .stuck → (∃ i j, d = .int i ∧ e = .int j)) {G : Gm} : V2 G f (rI0 fun i j => .int (g i j)) := by
  intro W ι H S d e v u Q rep r1 r2 p
  have ne : f d e S ≠ .stuck := fun z => by rw [z] at p; exact p
  obtain ⟨i, j, rfl, rfl⟩ := h2 d e S ne
  rw [h1] at p
  exact ⟨i, j, r1, r2, p _ H ι (Ext.refl _ _) rep rfl⟩
theorem only_ints {f : D → D → Sto → R D} (h : ∀ d e S, (∀ i j, ¬ (d = .int i ∧ e = .int j)) → f d e S = .stuck) (d e : D) (S : Sto) (ne : f d e S ≠ .stuck) : ∃ i j, d = .int i ∧ e = .int j := by
  by_cases q : ∃ i j, d = .int i ∧ e = .int j
  · exact q
  · exact absurd (h d e S fun i j z => q ⟨i, j, z⟩) ne
theorem V2.or {G : Gm} {f : D → D → Sto → R D} {r r' : R2} (h : ∀ (W : WP) (ι : List Addr) (H : Hp) (S : Sto) (d e : D) (v u : V) (Q : VK), Rep G ι H S → RV G ι H d v → RV G ι H e u → Post G (RV G) W ι H (f d e S) Q → r v u H Q ∨ r' v u H Q) : V2 G f (fun x y H Q => r x y H Q ∨ r' x y H Q) := h
theorem op_mulB : OpR X (binaryOp .Mult) (rI mulOk fun i j => .int (i * j)) := by
  intro pins s σ H x y v u Q I rx ry h
  obtain ⟨i, j, h1, h2, hc, q⟩ := h
  rcases hc with hc | hc
  · exact op_mulW pins s σ H x y v u Q I rx ry ⟨i, j, h1, h2, hc, q⟩
  · exact op_mul pins s σ H x y v u Q I rx ry ⟨i, j, h1, h2, hc, q⟩
theorem v_mulI {G : Gm} : V2 G vMulI (rI mulOk fun i j => .int (i * j)) := v2_int (fun _ _ _ => rfl) (only_ints fun d e S h => by
  unfold vMulI
  split
  · exact absurd ⟨rfl, rfl⟩ (h _ _)
  · rfl)
theorem v_sub {G : Gm} : V2 G vSub (rI0 fun i j => .int (i - j)) := v2_int0 (fun _ _ _ => rfl) (only_ints fun d e S h => by
  unfold vSub
  split
  · exact absurd ⟨rfl, rfl⟩ (h _ _)
  · rfl)
theorem op_divB : OpR X (binaryOp .FloorDiv) (rI (fun _ j => divOk j) fun i j => .int (i / j)) := op_fdivW
theorem v_div {G : Gm} : V2 G vDiv (rI (fun _ j => divOk j) fun i j => .int (i / j)) := v2_int (fun _ _ _ => rfl) (only_ints fun d e S h => by
  unfold vDiv
  split
  · exact absurd ⟨rfl, rfl⟩ (h _ _)
  · rfl)
theorem v_mod {G : Gm} : V2 G vMod (rI (fun _ j => 0 < j) fun i j => .int (i % j)) := v2_int (fun _ _ _ => rfl) (only_ints fun d e S h => by
  unfold vMod
  split
  · exact absurd ⟨rfl, rfl⟩ (h _ _)
  · rfl)
theorem v_pow {G : Gm} : V2 G vPow (rI CPow fun i j => .int (i ^ j.toNat)) := v2_int (fun _ _ _ => rfl) (only_ints fun d e S h => by
  unfold vPow
  split
  · exact absurd ⟨rfl, rfl⟩ (h _ _)
  · rfl)
theorem v_shl {G : Gm} : V2 G vShl (rI CPow fun i j => .int (i * 2 ^ j.toNat)) := v2_int (fun _ _ _ => rfl) (only_ints fun d e S h => by
  unfold vShl
  split
  · exact absurd ⟨rfl, rfl⟩ (h _ _)
  · rfl)
theorem v_shr {G : Gm} : V2 G vShr (rI (fun _ j => 0 ≤ j) fun i j => .int (i / 2 ^ j.toNat)) := v2_int (fun _ _ _ => rfl) (only_ints fun d e S h => by
  unfold vShr
  split
  · exact absurd ⟨rfl, rfl⟩ (h _ _)
  · rfl)
theorem v_and {G : Gm} : V2 G vAnd (rI0 fun i j => .int (Builtin.bitAnd i j)) := v2_int0 (fun _ _ _ => rfl) (only_ints fun d e S h => by
  unfold vAnd
  split
  · exact absurd ⟨rfl, rfl⟩ (h _ _)
  · rfl)
theorem v_neg {G : Gm} : V1 G vNeg (rU fun i => .int (-i)) := by
  intro W ι H S d v Q rep r p
  unfold vNeg at p
  split at p
  · exact ⟨_, r, p _ H ι (Ext.refl _ _) rep rfl⟩
  · exact p.elim
/-- + -/
def rAddS : R2 := fun x y H Q => ∃ i j : Str, x = .str i ∧ y = .str j ∧ i.length + j.length ≤ sizeLine ∧ Q (.str (i ++ j)) H
def rAddAll (K : PySem.W.Frag) : R2 := fun x y H Q => ((rI0 fun i j => .int (i + j)) x y H Q ∨ rAddS x y H Q) ∨ (rCatA K x y H Q ∨ rCat x y H Q)
theorem op_addAll : OpR X (binaryOp .Add) (rAddAll X.K) := (op_add.or op_add_str).or (op_catA.or op_cat)
theorem v_add {G : Gm} : V2 G vAdd (rAddAll G.K) := by
  intro W ι H S d e v u Q rep r1 r2 p
  unfold vAdd at p
  split at p
  · exact .inl (.inl ⟨_, _, r1, r2, p _ H ι (Ext.refl _ _) rep rfl⟩)
  · rename_i x y
    split at p
    · rename_i hl
      refine .inl (.inr ⟨_, _, r1, r2, by rw [← line_eq]; exact (show x.toArray.size + y.toArray.size ≤ LINE by simpa using hl), ?_⟩)
      refine p _ H ι (Ext.refl _ _) rep ?_
      show V.str _ = V.str _
      congr 1
      show (⟨x.toArray ++ y.toArray⟩ : Str) = ⟨(x ++ y).toArray⟩
      simp
    · exact p.elim
  · rename_i x y
    split at p
    · rename_i hl
      obtain ⟨a, vs, rfl, h1, h2⟩ := r1
      obtain ⟨b, us, rfl, h3, h4⟩ := r2
      refine .inr (.inl ⟨a, b, vs, us, rfl, rfl, h1, h3, by rw [← h2.length, ← h4.length, ← line_eq]; exact hl, fun z => ?_, fun z1 z2 => ?_, fun z1 z2 q hq => ?_⟩)
      · have : x = [] := by subst z; exact h2.nil_of
        subst this
        exact p _ H ι (Ext.refl _ _) rep ⟨b, us, rfl, h3, h4⟩
      · have : y = [] := by subst z2; exact h4.nil_of
        subst this
        rw [List.append_nil] at p
        exact p _ H ι (Ext.refl _ _) rep ⟨a, vs, rfl, h1, h2⟩
      · exact post_tup (Wp := W) rep (RVs.append h2 h4) hq p
    · exact p.elim
  · rename_i m n
    split at p
    · rename_i x y hx hy
      split at p
      · rename_i hl
        obtain ⟨a, h1, rfl⟩ := r1
        obtain ⟨b, h2, rfl⟩ := r2
        obtain ⟨vs, h3, h4⟩ := rep.cell _ _ a hx h1
        obtain ⟨us, h5, h6⟩ := rep.cell _ _ b hy h2
        exact .inr (.inr ⟨a, b, vs, us, rfl, rfl, h3, h5, by rw [← h4.length, ← h6.length, ← line_eq]; exact hl, fun q hq => post_lst rep (RVs.append h4 h6) hq p⟩)
      · exact p.elim
    · exact p.elim
  · exact p.elim
end

/-! ### comparisons of numbers -/
def vCmp (f : Int → Int → Bool) : D → D → Sto → R D
  | .int i, .int j, S => .ok (.bl (f i j)) S
  | _, _, _ => .stuck
abbrev vLt := vCmp fun i j => decide (i < j)
abbrev vLe := vCmp fun i j => decide (i ≤ j)
abbrev vGt := vCmp fun i j => decide (j < i)
abbrev vGe := vCmp fun i j => decide (j ≤ i)
theorem vb_cmp {G : Gm} (f : Int → Int → Bool) : VB G (vCmp f) (rI0 fun i j => .bl (f i j)) := by
  intro ι H S d e v u rep r1 r2
  unfold vCmp
  split
  · exact .inr ⟨_, rfl, fun Q q => ⟨_, _, r1, r2, q⟩⟩
  · exact .inl rfl
theorem v_cmp {G : Gm} (f : Int → Int → Bool) : V2 G (vCmp f) (rI0 fun i j => .bl (f i j)) := (vb_cmp f).v2
def vIsN : D → D → Sto → R D := fun d e S => match d, e with
  | .non, .non => .ok (.bl true) S
  | _, .non => .ok (.bl false) S
  | .bl a, .bl b => .ok (.bl (a == b)) S
  | _, _ => .stuck
def vNotN : D → D → Sto → R D := fun d e S => match d, e with
  | .non, .non => .ok (.bl false) S
  | _, .non => .ok (.bl true) S
  | .bl a, .bl b => .ok (.bl (!(a == b))) S
  | _, _ => .stuck
section
variable {X : Cx}
def rIs : R2 := fun x y H Q => (y = .non ∧ Q (.bl (decide (x = .non))) H) ∨ rIsB x y H Q
def rNot : R2 := fun x y H Q => (y = .non ∧ Q (.bl (!decide (x = .non))) H) ∨ rNotB x y H Q
theorem op_is : OpR X (compareOp .Is) rIs := OpR.or op_isN op_isBl
theorem op_isnot : OpR X (compareOp .IsNot) rNot := OpR.or op_notN op_notBl
theorem RV.non_iff {G : Gm} {ι : List Addr} {H : Hp} {d : D} {v : V} (r : RV G ι H d v) (h : d ≠ .non) : v ≠ .non := by
  cases d with
  | non => exact absurd rfl h
  | bl b => have e : v = .bl b := r; subst e; exact fun z => nomatch z
  | int b => have e : v = .int b := r; subst e; exact fun z => nomatch z
  | str b => have e : v = .str _ := r; subst e; exact fun z => nomatch z
  | tup ds => obtain ⟨a, vs, rfl, _⟩ := r; exact fun z => nomatch z
  | frl ds => obtain ⟨a, vs, rfl, _⟩ := r; exact fun z => nomatch z
  | ref n => obtain ⟨a, _, rfl⟩ := r; exact fun z => nomatch z
  | fn n => obtain ⟨a, _, rfl⟩ := r; exact fun z => nomatch z
  | lam _ => obtain ⟨a, _, _, _, _, rfl, _⟩ := r; exact fun z => nomatch z
  | lsv ds => exact r.elim
  | dct ks ds => exact r.elim
theorem vb_is {G : Gm} : VB G vIsN rIs := by
  intro ι H S d e v u rep r1 r2
  unfold vIsN
  split
  · have e1 : v = .non := r1
    have e2 : u = .non := r2
    subst e1 e2
    exact .inr ⟨_, rfl, fun Q q => .inl ⟨rfl, q⟩⟩
  · rename_i hne
    have e2 : u = .non := r2
    subst e2
    have ne : v ≠ .non := RV.non_iff r1 hne
    exact .inr ⟨_, rfl, fun Q q => .inl ⟨rfl, by rw [decide_eq_false ne]; exact q⟩⟩
  · rename_i a b
    exact .inr ⟨_, rfl, fun Q q => .inr ⟨a, b, r1, r2, by rw [← Bool.beq_eq_decide_eq]; exact q⟩⟩
  · exact .inl rfl
theorem vb_isnot {G : Gm} : VB G vNotN rNot := by
  intro ι H S d e v u rep r1 r2
  unfold vNotN
  split
  · have e1 : v = .non := r1
    have e2 : u = .non := r2
    subst e1 e2
    exact .inr ⟨_, rfl, fun Q q => .inl ⟨rfl, q⟩⟩
  · rename_i hne
    have e2 : u = .non := r2
    subst e2
    have ne : v ≠ .non := RV.non_iff r1 hne
    exact .inr ⟨_, rfl, fun Q q => .inl ⟨rfl, by rw [decide_eq_false ne]; exact q⟩⟩
  · rename_i a b
    exact .inr ⟨_, rfl, fun Q q => .inr ⟨a, b, r1, r2, by rw [← Bool.beq_eq_decide_eq]; exact q⟩⟩
  · exact .inl rfl
end

/-! ### data -/
def mapO {α β : Type} (f : α → Option β) : List α → Option (List β)
  | [] => some []
  | a :: as => match f a, mapO f as with
    | some b, some bs => some (b :: bs)
    | _, _ => none
def toPy (S : Sto) : Nat → D → Option PyData
  | 0, _ => none
  | n + 1, d => match d with
    | .non => some .none
    | .bl b => some (.bool b)
    | .int i => some (.int i)
    | .str x => some (.str ⟨x.toArray⟩)
    | .tup ds => (mapO (toPy S n) ds).map .tuple
    | .frl ds => (mapO (toPy S n) ds).map .list
    | .ref k => match S[k]? with
      | some (.lst ds) => (mapO (toPy S n) ds).map .list
      | _ => none
    | .fn _ => none
    | .lam _ => none
    | .lsv ds => (mapO (toPy S n) ds).map .list
    | .dct _ _ => none
section
variable {G : Gm} {ι : List Addr} {H : Hp} {S : Sto}
theorem dpAll_of {f : D → Option PyData} (hf : ∀ d v p, RV G ι H d v → f d = some p → Dp G.K H v p) : ∀ (ds : List D) (vs : List V) (ps : List PyData), RVs G ι H ds vs → mapO f ds = some ps → DpAll G.K H vs ps
  | [], vs, ps, h, e => by
    have e1 : vs = [] := h
    subst e1
    cases e
    exact .nil
  | d :: ds, vs, ps, h, e => by
    obtain ⟨v, vr, rfl, h1, h2⟩ := h
    unfold mapO at e
    split at e
    · rename_i b bs hb hbs
      cases e
      exact .cons (hf d v b h1 hb) (dpAll_of hf ds vr bs h2 hbs)
    · cases e
theorem dp_of (rep : Rep G ι H S) : ∀ (n : Nat) (d : D) (v : V) (p : PyData), RV G ι H d v → toPy S n d = some p → Dp G.K H v p
  | 0, d, v, p, h, e => by cases e
  | n + 1, d, v, p, h, e => by
    unfold toPy at e
    cases d with
    | non => cases e; have e1 : v = .non := h; subst e1; exact .non
    | bl b => cases e; have e1 : v = .bl b := h; subst e1; exact .bl b
    | int b => cases e; have e1 : v = .int b := h; subst e1; exact .int b
    | str b => cases e; have e1 : v = .str _ := h; subst e1; exact .str _
    | tup ds =>
      obtain ⟨ps, h1, rfl⟩ := Option.map_eq_some_iff.mp e
      obtain ⟨a, vs, rfl, h2, h3⟩ := h
      exact .tup h2 (dpAll_of (dp_of rep n) ds vs ps h3 h1)
    | frl ds =>
      obtain ⟨ps, h1, rfl⟩ := Option.map_eq_some_iff.mp e
      obtain ⟨a, vs, rfl, h2, h3⟩ := h
      exact .lst h2.sql (dpAll_of (dp_of rep n) ds vs ps h3 h1)
    | ref k =>
      obtain ⟨a, h2, rfl⟩ := h
      simp only at e
      split at e
      · rename_i ds hds
        obtain ⟨ps, h1, rfl⟩ := Option.map_eq_some_iff.mp e
        obtain ⟨vs, h3, h4⟩ := rep.cell _ _ a hds h2
        exact .lst (.of h3) (dpAll_of (dp_of rep n) ds vs ps h4 h1)
      · cases e
    | fn x => cases e
    | lam _ => cases e
    | lsv ds => exact h.elim
    | dct ks ds => exact h.elim
end
def eqG (f : Bool → Bool) (d e : D) (S : Sto) : R D := match toPy S 40 d, toPy S 40 e with
  | some p, some q => if SeqAt.shaped p = true ∧ SeqAt.shaped q = true then .ok (.bl (f (PyData.eqv p q))) S else .stuck
  | _, _ => .stuck
/-- two texts, any; or what is deep data -/
def eqA (f : Bool → Bool) (d e : D) (S : Sto) : R D := match d, e with
  | .str x, .str y => .ok (.bl (f (x == y))) S
  | d, e => eqG f d e S
def vEq (d e : D) (S : Sto) : R D := eqA id d e S
def vNe (d e : D) (S : Sto) : R D := eqA not d e S
section
variable {X : Cx}
def rEqAll (K : PySem.W.Frag) : R2 := fun x y H Q => rEq x y H Q ∨ rEqD K x y H Q
def rNeAll (K : PySem.W.Frag) : R2 := fun x y H Q => rNe x y H Q ∨ rNeD K x y H Q
theorem op_eqAll (hu : X.A.units + 64 < cLine) : OpR X (compareOp .Eq) (rEqAll X.K) := op_eq.or (op_eqD hu)
theorem op_neAll (hu : X.A.units + 64 < cLine) : OpR X (compareOp .NotEq) (rNeAll X.K) := op_ne.or (op_neD hu)
end
theorem eqG_v {G : Gm} {f : Bool → Bool} {ι : List Addr} {H : Hp} {S : Sto} {d e : D} {v u : V} (rep : Rep G ι H S) (r1 : RV G ι H d v) (r2 : RV G ι H e u) :
    eqG f d e S = .stuck ∨ ∃ p q, Dp G.K H v p ∧ Dp G.K H u q ∧ SeqAt.shaped p = true ∧ SeqAt.shaped q = true ∧ eqG f d e S = .ok (.bl (f (PyData.eqv p q))) S := by
  unfold eqG
  split
  · rename_i p q hp hq
    split
    · rename_i hs
      exact .inr ⟨p, q, dp_of rep 40 d v p r1 hp, dp_of rep 40 e u q r2 hq, hs.1, hs.2, rfl⟩
    · exact .inl rfl
  · exact .inl rfl
theorem strEq {x y : List Nat} : (decide (V.str ⟨x.toArray⟩ = V.str ⟨y.toArray⟩)) = (x == y) := by
  rw [Bool.eq_iff_iff]
  simp
theorem vb_eq {G : Gm} : VB G vEq (rEqAll G.K) := by
  intro ι H S d e v u rep r1 r2
  unfold vEq eqA
  split
  · cases r1; cases r2
    exact .inr ⟨_, rfl, fun Q k => .inl ⟨rfl, by rw [strEq]; exact k⟩⟩
  · rcases eqG_v (f := id) rep r1 r2 with h | ⟨p, q, h1, h2, h3, h4, h5⟩
    · exact .inl h
    · exact .inr ⟨_, h5, fun Q k => .inr ⟨p, q, h1, h2, h3, h4, k⟩⟩
theorem vb_ne {G : Gm} : VB G vNe (rNeAll G.K) := by
  intro ι H S d e v u rep r1 r2
  unfold vNe eqA
  split
  · cases r1; cases r2
    exact .inr ⟨_, rfl, fun Q k => .inl ⟨rfl, by rw [strEq]; exact k⟩⟩
  · rcases eqG_v (f := not) rep r1 r2 with h | ⟨p, q, h1, h2, h3, h4, h5⟩
    · exact .inl h
    · exact .inr ⟨_, h5, fun Q k => .inr ⟨p, q, h1, h2, h3, h4, k⟩⟩

/-! ### items, slices -/
def vIx : D → D → Sto → R D
  | .tup ds, .int i, S => match atI ds i with
    | some d => .ok d S
    | none => .stuck
  | .frl ds, .int i, S => match atI ds i with
    | some d => .ok d S
    | none => .stuck
  | .str x, .int i, S => if x.length ≤ LINE then (match atI x i with
    | some c => .ok (.str [c]) S
    | none => .stuck) else .stuck
  | .ref n, .int i, S => match S[n]? with
    | some (.lst ds) => (match atI ds i with
      | some d => .ok d S
      | none => .stuck)
    | _ => .stuck
  | _, _, _ => .stuck
theorem RVs.atI {G : Gm} {ι : List Addr} {H : Hp} {ds : List D} {vs : List V} {i : Int} {d : D} (h : RVs G ι H ds vs) (e : atI ds i = some d) : ∃ v, L2.atI vs i = some v ∧ RV G ι H d v := by
  unfold L2.atI at e ⊢
  rw [← h.length]
  cases q : ixN ds.length i with
  | none => rw [q] at e; cases e
  | some j =>
    rw [q] at e
    exact h.get e
theorem v_ix {G : Gm} : V2 G vIx (rIx G.K) := by
  intro W ι H S d e v u Q rep r1 r2 p
  unfold vIx at p
  split at p
  · rename_i ds i
    split at p
    · rename_i d' hd
      obtain ⟨a, vs, rfl, h1, h2⟩ := r1
      obtain ⟨w, h3, h4⟩ := h2.atI hd
      exact .inr (.inl ⟨a, vs, i, w, rfl, r2, h1, h3, p _ H ι (Ext.refl _ _) rep h4⟩)
    · exact p.elim
  · rename_i ds i
    split at p
    · rename_i d' hd
      obtain ⟨a, vs, rfl, h1, h2⟩ := r1
      obtain ⟨w, h3, h4⟩ := h2.atI hd
      exact .inl ⟨a, vs, i, w, rfl, r2, h1.sql, h3, p _ H ι (Ext.refl _ _) rep h4⟩
    · exact p.elim
  · rename_i x i
    split at p
    · rename_i hl
      split at p
      · rename_i c hc
        refine .inr (.inr ⟨_, i, c, r1, r2, by rw [← line_eq]; exact (show x.toArray.size ≤ LINE by simpa using hl), by simpa using hc, ?_⟩)
        exact p _ H ι (Ext.refl _ _) rep rfl
      · exact p.elim
    · exact p.elim
  · rename_i n i
    split at p
    · rename_i ds hds
      split at p
      · rename_i d' hd
        obtain ⟨a, h1, rfl⟩ := r1
        obtain ⟨vs, h2, h3⟩ := rep.cell _ _ a hds h1
        obtain ⟨w, h4, h5⟩ := h3.atI hd
        exact .inl ⟨a, vs, i, w, rfl, r2, .of h2, h4, p _ H ι (Ext.refl _ _) rep h5⟩
      · exact p.elim
    · exact p.elim
  · exact p.elim
/-- a part of a slice -/
abbrev O := EnvD → Sto → R (Option Int)
def oNone : O := fun _ S => .ok none S
def oSome (a : E) : O := fun env S => (a env S).bind fun d S1 => match d with
  | .int i => .ok (some i) S1
  | _ => .stuck
def RO (_ : List Addr) (_ : Hp) (a b : Option Int) : Prop := a = b
def tO (G : Gm) (W : WS) (f : O) : TO := fun σ H Q => ∃ ι env S, Rep G ι H S ∧ EnvR G ι H env σ ∧ Post G RO (fun c d H' => W c d σ H') ι H (f env S) Q
structure FO (X : Cx) (W : WS) (e : Option Expr) (f : O) : Prop where
  po : PO X e (tO (gm X) W f)
def cutD {α : Type} (xs : List α) (lo hi : Option Int) : List α := (xs.drop (HT.sIx xs.length 0 lo)).take (HT.sIx xs.length xs.length hi - HT.sIx xs.length 0 lo)
def vSl (d : D) (lo hi : Option Int) (S : Sto) : R D := match d with
  | .tup ds => .ok (.tup (cutD ds lo hi)) S
  | .frl ds => .ok (.ref S.length) (S ++ [.lst (cutD ds lo hi)])
  | .ref n => match S[n]? with
    | some (.lst ds) => .ok (.ref S.length) (S ++ [.lst (cutD ds lo hi)])
    | _ => .stuck
  | .str x => if x.length ≤ LINE then .ok (.str (cutD x lo hi)) S else .stuck
  | _ => .stuck
def eSl (a : E) (lo hi : O) : E := fun env S => (a env S).bind fun d S1 => (lo env S1).bind fun l S2 => (hi env S2).bind fun u S3 => vSl d l u S3
section
variable {X : Cx} {W : WS} {e : Expr} {lo hi : Option Expr} {f : E} {fl fh : O} {pos p2 : Pos}
theorem PO.weak {oe : Option Expr} {t t' : TO} (h : PO X oe t) (k : ∀ σ H Q, t' σ H Q → t σ H Q) : PO X oe t' := ⟨fun pins s σ H Q I q => h.run pins s σ H Q I (k σ H Q q)⟩
theorem fo_none : FO X W none oNone := by
  refine ⟨PO.weak po_none fun σ H Q h => ?_⟩
  obtain ⟨ι, env, S, rep, er, p⟩ := h
  exact p none H ι (Ext.refl _ _) rep rfl
theorem fo_some (he : FE X W e f) : FO X W (some e) (oSome f) := by
  refine ⟨PO.weak (po_some he.pe) fun σ H Q h => ?_⟩
  obtain ⟨ι, env, S, rep, er, p⟩ := h
  refine ⟨ι, env, S, rep, er, Post.imp (Post.bind p) fun v H1 q => ?_⟩
  obtain ⟨d, S1, ι1, e1, rep1, rv, q⟩ := q
  split at q
  · exact ⟨_, rv, q _ H1 ι1 (Ext.refl _ _) rep1 rfl⟩
  · exact q.elim
theorem RVs.cut {G : Gm} {ι : List Addr} {H : Hp} {ds : List D} {vs : List V} (h : RVs G ι H ds vs) (lo hi : Option Int) : RVs G ι H (cutD ds lo hi) (cutV vs lo hi) := by
  unfold cutD cutV
  rw [← h.length]
  exact RVs.take _ (RVs.drop _ h)
def rSlAll (K : PySem.W.Frag) : V → Option Int → Option Int → Hp → VK → Prop := fun x l u H Q => (rSlA K x l u H Q ∨ rSlL K x l u H Q) ∨ rSlS x l u H Q
theorem sl_all : SlR X (rSlAll X.K) := (sl_tupA.or sl_list).or sl_str
theorem v_sl {G : Gm} {Wp : WP} {ι : List Addr} {H : Hp} {S : Sto} {d : D} {v : V} {l u : Option Int} {Q : VK} (rep : Rep G ι H S) (r : RV G ι H d v) (p : Post G (RV G) Wp ι H (vSl d l u S) Q) : rSlAll G.K v l u H Q := by
  unfold vSl at p
  split at p
  · rename_i ds
    obtain ⟨a, vs, rfl, h1, h2⟩ := r
    refine .inl (.inl ⟨a, vs, rfl, h1, fun z => ?_, fun z q hq => post_tup (Wp := Wp) rep (h2.cut l u) hq p⟩)
    have e : cutD ds l u = ds := by
      unfold cutD
      rw [h2.length, z.1, z.2]
      simp only [List.drop_zero, Nat.sub_zero]
      rw [← h2.length]
      exact List.take_length
    rw [e] at p
    exact p _ H ι (Ext.refl _ _) rep ⟨a, vs, rfl, h1, h2⟩
  · rename_i ds
    obtain ⟨a, vs, rfl, h1, h2⟩ := r
    exact .inl (.inr ⟨a, vs, rfl, h1.sql, fun q hq => post_lst rep (h2.cut l u) hq p⟩)
  · rename_i n
    split at p
    · rename_i ds hds
      obtain ⟨a, h1, rfl⟩ := r
      obtain ⟨vs, h2, h3⟩ := rep.cell _ _ a hds h1
      exact .inl (.inr ⟨a, vs, rfl, .of h2, fun q hq => post_lst rep (h3.cut l u) hq p⟩)
    · exact p.elim
  · rename_i x
    split at p
    · rename_i hl
      refine .inr ⟨_, r, by rw [← line_eq]; exact (show x.toArray.size ≤ LINE by simpa using hl), p _ H ι (Ext.refl _ _) rep ?_⟩
      rfl
    · exact p.elim
  · exact p.elim
theorem fe_sl (he : FE X W e f) (hl : FO X W lo fl) (hh : FO X W hi fh) : FE X W (.Subscript e (.Slice lo hi none p2) pos) (eSl f fl fh) := by
  refine ⟨PE.weak (pe_slice sl_all he.pe hl.po hh.po) fun σ H Q h => ?_⟩
  obtain ⟨ι, env, S, rep, er, p⟩ := h
  refine ⟨ι, env, S, rep, er, Post.imp (Post.bind p) fun v H1 q => ?_⟩
  obtain ⟨d, S1, ι1, e1, rep1, rv, q⟩ := q
  refine ⟨ι1, env, S1, rep1, er.ext e1, Post.imp (Post.bind (Rel := RO) q) fun l H2 q2 => ?_⟩
  obtain ⟨l', S2, ι2, e2, rep2, rfl, q2⟩ := q2
  refine ⟨ι2, env, S2, rep2, (er.ext e1).ext e2, Post.imp (Post.bind (Rel := RO) q2) fun u H3 q3 => ?_⟩
  obtain ⟨u', S3, ι3, e3, rep3, rfl, q3⟩ := q3
  exact v_sl rep3 (RV.ext e3 _ _ (RV.ext e2 _ _ rv)) q3
end
end Fz

/-! Fz6: built-ins by name, methods, defs. -/
namespace Fz
open PySem PySem.Spec PyProof.Rows L2

/-- the last cells are dropped where nothing refers to them -/
def noRef (n : Nat) : D → Bool
  | .ref k => decide (k < n)
  | .tup ds => noRefs n ds
  | .frl ds => noRefs n ds
  | _ => true
where noRefs (n : Nat) : List D → Bool
  | [] => true
  | d :: ds => noRef n d && noRefs n ds
def noRefK (n : Nat) : List (Key × D) → Bool
  | [] => true
  | (_, d) :: r => noRef n d && noRefK n r
def cellNo (n : Nat) : Cell → Bool
  | .lst ds => noRef.noRefs n ds
  | .dk kvs => noRefK n kvs
def gcV (n : Nat) (d : D) (S : Sto) : R D :=
  if (S.take n).all (cellNo n) = true then
    (if noRef n d = true then .ok d (S.take n)
      else match d with
        | .ref k => match S[k]? with
          | some c => if n ≤ k ∧ cellNo n c = true then .ok (.ref n) (S.take n ++ [c]) else .ok d S
          | none => .ok d S
        | _ => .ok d S)
  else .ok d S
/-- an expression whose new cells are dropped -/
def eGc (f : E) : E := fun env S => (f env S).bind (gcV S.length)
section
variable {G : Gm} {ι : List Addr} {H : Hp} {S : Sto}
mutual
theorem RV.low {n : Nat} : ∀ (d : D) (v : V), noRef n d = true → RV G ι H d v → RV G (ι.take n) H d v
  | .non, v, _, h => h
  | .bl b, v, _, h => h
  | .int i, v, _, h => h
  | .str x, v, _, h => h
  | .tup ds, v, e, h => by
    obtain ⟨a, vs, rfl, h1, h2⟩ := h
    exact ⟨a, vs, rfl, h1, RVs.low ds vs (by simpa only [noRef] using e) h2⟩
  | .frl ds, v, e, h => by
    obtain ⟨a, vs, rfl, h1, h2⟩ := h
    exact ⟨a, vs, rfl, h1, RVs.low ds vs (by simpa only [noRef] using e) h2⟩
  | .ref k, v, e, h => by
    obtain ⟨a, h1, rfl⟩ := h
    have hk : k < n := by simpa [noRef] using e
    exact ⟨a, by rw [List.getElem?_take, if_pos hk]; exact h1, rfl⟩
  | .fn x, v, _, h => h
  | .lam _, v, _, h => h
theorem RVs.low {n : Nat} : ∀ (ds : List D) (vs : List V), noRef.noRefs n ds = true → RVs G ι H ds vs → RVs G (ι.take n) H ds vs
  | [], vs, _, h => h
  | d :: ds, vs, e, h => by
    obtain ⟨v, vr, rfl, h1, h2⟩ := h
    simp only [noRef.noRefs, Bool.and_eq_true] at e
    exact ⟨v, vr, rfl, RV.low d v e.1 h1, RVs.low ds vr e.2 h2⟩
end
theorem RKV.low {n : Nat} : ∀ (ds : List (Key × D)) (vs : List (Key × V)), noRefK n ds = true → RKV G ι H ds vs → RKV G (ι.take n) H ds vs
  | [], vs, _, h => h
  | (k, d) :: ds, vs, e, h => by
    obtain ⟨v, vr, rfl, h1, h2⟩ := h
    simp only [noRefK, Bool.and_eq_true] at e
    exact ⟨v, vr, rfl, RV.low d v e.1 h1, RKV.low ds vr e.2 h2⟩
theorem CellOk.low {n : Nat} {a : Addr} {c : Cell} (e : cellNo n c = true) (h : CellOk G ι H a c) : CellOk G (ι.take n) H a c := by
  cases c with
  | lst ds => obtain ⟨vs, h1, h2⟩ := h; exact ⟨vs, h1, RVs.low _ _ e h2⟩
  | dk kvs => obtain ⟨vs, h1, h2⟩ := h; exact ⟨vs, h1, RKV.low _ _ e h2⟩
theorem Rep.low (r : Rep G ι H S) {n : Nat} (e : (S.take n).all (cellNo n) = true) : Rep G (ι.take n) H (S.take n) :=
  r.take n fun i c a h1 h2 => by
    have h3 : S[i]? = some c := by
      rw [List.getElem?_take] at h1
      split at h1
      · exact h1
      · cases h1
    exact (r.cell i c a h3 h2).low (List.all_eq_true.mp e c (List.mem_of_getElem? h1))
theorem gc_post {W : WP} {ι0 : List Addr} {H0 : Hp} {n : Nat} {d : D} {S' : Sto} {v : V} {Q : VK} (hn : ι0.length = n) (ex : Ext ι0 H0 ι H) (rep : Rep G ι H S') (rv : RV G ι H d v) (p : Post G (RV G) W ι0 H0 (gcV n d S') Q) : Q v H := by
  have exl : Ext ι0 H0 (ι.take n) H := ⟨⟨fun i a e => by
    have hi : i < n := by
      rcases Nat.lt_or_ge i ι0.length with h' | h'
      · omega
      · rw [List.getElem?_eq_none h'] at e; cases e
    rw [List.getElem?_take, if_pos hi]
    exact ex.pre i a e, ex.tups, ex.frzs, ex.exts⟩, ex.keep, ex.alive, fun i a e => by
      rw [List.getElem?_take] at e
      split at e
      · exact ex.new i a e
      · cases e⟩
  unfold gcV at p
  split at p
  · rename_i hS
    split at p
    · rename_i hd
      exact p v H _ exl (rep.low hS) (RV.low d v hd rv)
    · split at p
      · rename_i k _
        split at p
        · rename_i c hc
          split at p
          · rename_i hk
            obtain ⟨a, h1, rfl⟩ := rv
            have ha : ∀ i : Nat, (ι.take n)[i]? ≠ some a := fun i e => by
              rw [List.getElem?_take] at e
              split at e
              · rename_i hi
                have := rep.inj i k a e h1
                omega
              · cases e
            have hl : (ι.take n).length = n := by
              have : k < ι.length := by
                rcases Nat.lt_or_ge k ι.length with h' | h'
                · exact h'
                · rw [List.getElem?_eq_none h'] at h1; cases h1
              rw [List.length_take]
              omega
            have cl := (rep.cell k c a hc h1).low (n := n) hk.2
            have x0 : Ext0 (ι.take n) H (ι.take n ++ [a]) H := ⟨fun i b e => by
              have hi : i < (ι.take n).length := by
                rcases Nat.lt_or_ge i (ι.take n).length with h' | h'
                · exact h'
                · rw [List.getElem?_eq_none h'] at e; cases e
              rw [List.getElem?_append_left hi]; exact e, fun _ _ e => e, fun _ _ _ e => e, fun _ _ e => e⟩
            refine p (.ref a) H (ι.take n ++ [a]) ⟨⟨fun i b e => x0.pre i b (exl.pre i b e), exl.tups, exl.frzs, exl.exts⟩, exl.keep, exl.alive, fun i b e => ?_⟩ ((rep.low hS).take_in ha (cl.ext x0 rfl)) ⟨a, by rw [List.getElem?_append_right (by omega), hl]; simp, rfl⟩
            rcases get_push e with z | ⟨_, z⟩
            · exact exl.new i b z
            · rw [z]; exact ex.new k a h1
          · exact p v H ι ex rep rv
        · exact p v H ι ex rep rv
      · exact p v H ι ex rep rv
  · exact p v H ι ex rep rv
end
theorem fe_gc {X : Cx} {W : WS} {e : Expr} {f : E} (h : FE X W e f) : FE X W e (eGc f) := by
  refine ⟨PE.weak h.pe fun σ H Q h => ?_⟩
  obtain ⟨ι, env, S, rep, er, p⟩ := h
  refine ⟨ι, env, S, rep, er, ?_⟩
  have p0 : Post (gm X) (RV (gm X)) (fun c d H' => W c d σ H') ι H ((f env S).bind (gcV S.length)) Q := p
  cases hf : f env S with
  | stuck => rw [hf] at p0; exact p0.elim
  | exc C fs S' => rw [hf] at p0; exact p0
  | ok d S' =>
    rw [hf] at p0
    exact fun v H' ι' ex rep' rv => gc_post rep.len ex rep' rv p0

/-! ### built-ins -/
def vLen : List D → Sto → R D
  | [.str x], S => if x.length ≤ LINE then .ok (.int x.length) S else .stuck
  | [.tup ds], S => .ok (.int ds.length) S
  | [.frl ds], S => .ok (.int ds.length) S
  | [.ref n], S => match S[n]? with
    | some (.lst ds) => .ok (.int ds.length) S
    | _ => .stuck
  | _, _ => .stuck
def vAbs : List D → Sto → R D
  | [.int i], S => .ok (.int (if i < 0 then -i else i)) S
  | _, _ => .stuck
def vMax2 : List D → Sto → R D
  | [.int i, .int j], S => .ok (.int (if j > i then j else i)) S
  | _, _ => .stuck
def vMin2 : List D → Sto → R D
  | [.int i, .int j], S => .ok (.int (if j < i then j else i)) S
  | _, _ => .stuck
def vInt : List D → Sto → R D
  | [.int i], S => .ok (.int i) S
  | [.bl k], S => .ok (.int (if k then 1 else 0)) S
  | _, _ => .stuck
def vGcd : List D → Sto → R D
  | [.int i, .int j], S => .ok (.int ((Nat.gcd i.natAbs j.natAbs : Nat) : Int)) S
  | _, _ => .stuck
instance (i j : Int) : Decidable (CDiv i j) := by unfold CDiv; infer_instance
def vDivmod : List D → Sto → R D
  | [.int i, .int j], S => if CDiv i j then .ok (.tup [.int (i / j), .int (i % j)]) S else .stuck
  | _, _ => .stuck
def intsOf : List D → Option (List Int)
  | [] => some []
  | .int i :: r => (intsOf r).map (i :: ·)
  | _ => none
def blsOf : List D → Option (List Bool)
  | [] => some []
  | .bl i :: r => (blsOf r).map (i :: ·)
  | _ => none
def strsOf : List D → Option (List (List Nat))
  | [] => some []
  | .str i :: r => (strsOf r).map (i :: ·)
  | _ => none
/-- the items of a list -/
def lstOf (d : D) (S : Sto) : Option (List D) := match d with
  | .frl ds => some ds
  | .ref n => match S[n]? with
    | some (.lst ds) => some ds
    | _ => none
  | _ => none
def vSum : List D → Sto → R D
  | [d], S => match (lstOf d S).bind intsOf with
    | some ns => .ok (.int ns.sum) S
    | none => .stuck
  | _, _ => .stuck
def vAll : List D → Sto → R D
  | [d], S => match (lstOf d S).bind blsOf with
    | some bs => .ok (.bl (bs.all id)) S
    | none => .stuck
  | _, _ => .stuck
def vAny : List D → Sto → R D
  | [d], S => match (lstOf d S).bind blsOf with
    | some bs => .ok (.bl (bs.any id)) S
    | none => .stuck
  | _, _ => .stuck
def maxI : List Int → Int
  | [] => 0
  | [x] => x
  | x :: y :: r => max x (maxI (y :: r))
def minI : List Int → Int
  | [] => 0
  | [x] => x
  | x :: y :: r => min x (minI (y :: r))
def vMax : List D → Sto → R D
  | [d], S => match (lstOf d S).bind intsOf with
    | some (n :: ns) => .ok (.int (maxI (n :: ns))) S
    | _ => .stuck
  | _, _ => .stuck
def vMin : List D → Sto → R D
  | [d], S => match (lstOf d S).bind intsOf with
    | some (n :: ns) => .ok (.int (minI (n :: ns))) S
    | _ => .stuck
  | _, _ => .stuck
def vTuple : List D → Sto → R D
  | [.tup ds], S => .ok (.tup ds) S
  | [d], S => match lstOf d S with
    | some ds => .ok (.tup ds) S
    | none => .stuck
  | _, _ => .stuck
def vList : List D → Sto → R D
  | [.tup ds], S => .ok (.ref S.length) (S ++ [.lst ds])
  | [d], S => match lstOf d S with
    | some ds => .ok (.ref S.length) (S ++ [.lst ds])
    | none => .stuck
  | _, _ => .stuck
def costP : PyData → Nat
  | .none => 4
  | .bool _ => 5
  | .int _ => 600
  | .str x => 10 * x.length + 2
  | .list xs => costPs xs + 2
  | .tuple xs => costPs xs + 2
  | .dict _ => 0
where costPs : List PyData → Nat
  | [] => 0
  | x :: xs => costP x + 2 + costPs xs
def okShow (p : PyData) : Prop := p.showable = true ∧ p.hasDict = false ∧ p.depth ≤ 50 ∧ p.shown.length ≤ LINE
instance (p : PyData) : Decidable (okShow p) := by unfold okShow; infer_instance
def showD (p : PyData) : List Nat := p.shown.cps.toList
def vRepr : List D → Sto → R D
  | [d], S => match toPy S 40 d with
    | some p => if okShow p then .ok (.str (showD p)) S else .stuck
    | none => .stuck
  | _, _ => .stuck
section
variable {G : Gm} {ι : List Addr} {H : Hp} {S : Sto}
theorem lst_of {d : D} {v : V} {ds : List D} (rep : Rep G ι H S) (r : RV G ι H d v) (h : lstOf d S = some ds) : ∃ a vs, v = .ref a ∧ SqL G.K H a vs ∧ RVs G ι H ds vs := by
  unfold lstOf at h
  split at h
  · cases h
    obtain ⟨a, vs, rfl, h1, h2⟩ := r
    exact ⟨a, vs, rfl, h1.sql, h2⟩
  · split at h
    · rename_i hds
      cases h
      obtain ⟨a, h1, rfl⟩ := r
      obtain ⟨vs, h2, h3⟩ := rep.cell _ _ a hds h1
      exact ⟨a, vs, rfl, .of h2, h3⟩
    · cases h
  · cases h
theorem ints_vs : ∀ {ds : List D} {vs : List V} {ns : List Int}, RVs G ι H ds vs → intsOf ds = some ns → vs = ns.map V.int ∧ ds = ns.map D.int
  | [], vs, ns, h, e => by
    have e1 : vs = [] := h
    cases e
    exact ⟨e1, rfl⟩
  | d :: ds, vs, ns, h, e => by
    obtain ⟨v, vr, rfl, h1, h2⟩ := h
    cases d with
    | int i =>
      obtain ⟨ms, h3, rfl⟩ := Option.map_eq_some_iff.mp (show (intsOf ds).map (i :: ·) = some ns from e)
      obtain ⟨e1, e2⟩ := ints_vs h2 h3
      have e3 : v = .int i := h1
      subst e1 e3
      exact ⟨rfl, by rw [e2]; rfl⟩
    | _ => cases e
theorem bls_vs : ∀ {ds : List D} {vs : List V} {ns : List Bool}, RVs G ι H ds vs → blsOf ds = some ns → vs = ns.map V.bl
  | [], vs, ns, h, e => by
    have e1 : vs = [] := h
    cases e
    exact e1
  | d :: ds, vs, ns, h, e => by
    obtain ⟨v, vr, rfl, h1, h2⟩ := h
    cases d with
    | bl i =>
      obtain ⟨ms, h3, rfl⟩ := Option.map_eq_some_iff.mp (show (blsOf ds).map (i :: ·) = some ns from e)
      have e1 := bls_vs h2 h3
      have e3 : v = .bl i := h1
      subst e1 e3
      rfl
    | _ => cases e
theorem strs_vs : ∀ {ds : List D} {vs : List V} {ns : List (List Nat)}, RVs G ι H ds vs → strsOf ds = some ns → vs = (ns.map fun x => (⟨x.toArray⟩ : Str)).map V.str
  | [], vs, ns, h, e => by
    have e1 : vs = [] := h
    cases e
    exact e1
  | d :: ds, vs, ns, h, e => by
    obtain ⟨v, vr, rfl, h1, h2⟩ := h
    cases d with
    | str i =>
      obtain ⟨ms, h3, rfl⟩ := Option.map_eq_some_iff.mp (show (strsOf ds).map (i :: ·) = some ns from e)
      have e1 := strs_vs h2 h3
      have e3 : v = .str ⟨i.toArray⟩ := h1
      subst e1 e3
      rfl
    | _ => cases e
end
/-- one argument -/
theorem args1 {G : Gm} {ι : List Addr} {H : Hp} {d : D} {vs : List V} (h : RVs G ι H [d] vs) : ∃ v, vs = [v] ∧ RV G ι H d v := by
  obtain ⟨v, vr, rfl, h1, h2⟩ := h
  have e : vr = [] := h2
  subst e
  exact ⟨v, rfl, h1⟩
theorem args2 {G : Gm} {ι : List Addr} {H : Hp} {d e : D} {vs : List V} (h : RVs G ι H [d, e] vs) : ∃ v u, vs = [v, u] ∧ RV G ι H d v ∧ RV G ι H e u := by
  obtain ⟨v, vr, rfl, h1, h2⟩ := h
  obtain ⟨u, rfl, h3⟩ := args1 h2
  exact ⟨v, u, rfl, h1, h3⟩
section
variable {X : Cx}
def rLen (K : PySem.W.Frag) : List V → Hp → VK → Prop := fun xs H Q => ∃ x n, xs = [x] ∧ LenV K x H n ∧ Q (.int n) H
theorem v_len {G : Gm} : VN G vLen (rLen G.K) := by
  intro W ι H S ds vs Q rep rvs p
  unfold vLen at p
  split at p
  · split at p
    · rename_i x hl
      obtain ⟨v, rfl, r⟩ := args1 rvs
      exact ⟨v, _, rfl, by have e : v = .str _ := r; subst e; exact ⟨by rw [← line_eq]; exact (show x.toArray.size ≤ LINE by simpa using hl), rfl⟩, by
        have := p (.int x.length) H ι (Ext.refl _ _) rep rfl
        show Q (.int ((x.toArray.size : Nat) : Int)) H
        simpa using this⟩
    · exact p.elim
  · obtain ⟨v, rfl, r⟩ := args1 rvs
    obtain ⟨a, us, rfl, h1, h2⟩ := r
    exact ⟨_, _, rfl, .inr ⟨us, h1, rfl⟩, by rw [← h2.length]; exact p _ H ι (Ext.refl _ _) rep rfl⟩
  · obtain ⟨v, rfl, r⟩ := args1 rvs
    obtain ⟨a, us, rfl, h1, h2⟩ := r
    exact ⟨_, _, rfl, .inl ⟨us, h1.sql, rfl⟩, by rw [← h2.length]; exact p _ H ι (Ext.refl _ _) rep rfl⟩
  · split at p
    · rename_i hds
      obtain ⟨v, rfl, r⟩ := args1 rvs
      obtain ⟨a, h1, rfl⟩ := r
      obtain ⟨us, h2, h3⟩ := rep.cell _ _ a hds h1
      exact ⟨_, _, rfl, .inl ⟨us, .of h2, rfl⟩, by rw [← h3.length]; exact p _ H ι (Ext.refl _ _) rep rfl⟩
    · exact p.elim
  · exact p.elim
theorem v_abs {G : Gm} : VN G vAbs (fun xs H Q => ∃ i, xs = [.int i] ∧ Q (.int (if i < 0 then -i else i)) H) := by
  intro W ι H S ds vs Q rep rvs p
  unfold vAbs at p
  split at p
  · obtain ⟨v, rfl, r⟩ := args1 rvs
    have e : v = .int _ := r
    subst e
    exact ⟨_, rfl, p _ H ι (Ext.refl _ _) rep rfl⟩
  · exact p.elim
theorem v_int {G : Gm} : VN G vInt (fun xs H Q => (∃ i, xs = [.int i] ∧ Q (.int i) H) ∨ ∃ k, xs = [.bl k] ∧ Q (.int (if k then 1 else 0)) H) := by
  intro W ι H S ds vs Q rep rvs p
  unfold vInt at p
  split at p
  · obtain ⟨v, rfl, r⟩ := args1 rvs
    exact .inl ⟨_, congrArg (· :: []) r, p _ H ι (Ext.refl _ _) rep rfl⟩
  · obtain ⟨v, rfl, r⟩ := args1 rvs
    exact .inr ⟨_, congrArg (· :: []) r, p _ H ι (Ext.refl _ _) rep rfl⟩
  · exact p.elim
theorem v_max2 {G : Gm} : VN G vMax2 (fun xs H Q => ∃ i j, xs = [.int i, .int j] ∧ Q (.int (if j > i then j else i)) H) := by
  intro W ι H S ds vs Q rep rvs p
  unfold vMax2 at p
  split at p
  · obtain ⟨v, u, rfl, r, r2⟩ := args2 rvs
    have e : v = .int _ := r
    have e2 : u = .int _ := r2
    subst e e2
    exact ⟨_, _, rfl, p _ H ι (Ext.refl _ _) rep rfl⟩
  · exact p.elim
theorem v_min2 {G : Gm} : VN G vMin2 (fun xs H Q => ∃ i j, xs = [.int i, .int j] ∧ Q (.int (if j < i then j else i)) H) := by
  intro W ι H S ds vs Q rep rvs p
  unfold vMin2 at p
  split at p
  · obtain ⟨v, u, rfl, r, r2⟩ := args2 rvs
    have e : v = .int _ := r
    have e2 : u = .int _ := r2
    subst e e2
    exact ⟨_, _, rfl, p _ H ι (Ext.refl _ _) rep rfl⟩
  · exact p.elim
theorem v_gcd {G : Gm} : VN G vGcd rGcd := by
  intro W ι H S ds vs Q rep rvs p
  unfold vGcd at p
  split at p
  · obtain ⟨v, u, rfl, r, r2⟩ := args2 rvs
    have e : v = .int _ := r
    have e2 : u = .int _ := r2
    subst e e2
    exact ⟨_, _, rfl, p _ H ι (Ext.refl _ _) rep rfl⟩
  · exact p.elim
theorem v_divmod {G : Gm} : VN G vDivmod (fun xs H Q => ∃ i j, xs = [.int i, .int j] ∧ CDiv i j ∧ ∀ p, H p = none → Q (.ref p) (upd H p (.tup [.int (i / j), .int (i % j)]))) := by
  intro W ι H S ds vs Q rep rvs p
  unfold vDivmod at p
  split at p
  · split at p
    · rename_i hc
      obtain ⟨v, u, rfl, r, r2⟩ := args2 rvs
      have e : v = .int _ := r
      have e2 : u = .int _ := r2
      subst e e2
      exact ⟨_, _, rfl, hc, fun q hq => post_tup (Wp := W) rep (RVs.two (d := .int _) (e := .int _) (v := .int _) (u := .int _) rfl rfl) hq p⟩
    · exact p.elim
  · exact p.elim
theorem v_sum {G : Gm} : VN G vSum (rSum G.K) := by
  intro W ι H S ds vs Q rep rvs p
  unfold vSum at p
  split at p
  · split at p
    · rename_i ns hns
      obtain ⟨v, rfl, r⟩ := args1 rvs
      obtain ⟨es, h1, h2⟩ := Option.bind_eq_some_iff.mp hns
      obtain ⟨a, us, rfl, h3, h4⟩ := lst_of rep r h1
      obtain ⟨rfl, _⟩ := ints_vs h4 h2
      exact ⟨a, ns, rfl, h3, p _ H ι (Ext.refl _ _) rep rfl⟩
    · exact p.elim
  · exact p.elim
theorem v_all {G : Gm} : VN G vAll (rAll G.K) := by
  intro W ι H S ds vs Q rep rvs p
  unfold vAll at p
  split at p
  · split at p
    · rename_i ns hns
      obtain ⟨v, rfl, r⟩ := args1 rvs
      obtain ⟨es, h1, h2⟩ := Option.bind_eq_some_iff.mp hns
      obtain ⟨a, us, rfl, h3, h4⟩ := lst_of rep r h1
      have e := bls_vs h4 h2
      subst e
      exact ⟨a, ns, rfl, h3, p _ H ι (Ext.refl _ _) rep rfl⟩
    · exact p.elim
  · exact p.elim
theorem v_any {G : Gm} : VN G vAny (rAny G.K) := by
  intro W ι H S ds vs Q rep rvs p
  unfold vAny at p
  split at p
  · split at p
    · rename_i ns hns
      obtain ⟨v, rfl, r⟩ := args1 rvs
      obtain ⟨es, h1, h2⟩ := Option.bind_eq_some_iff.mp hns
      obtain ⟨a, us, rfl, h3, h4⟩ := lst_of rep r h1
      have e := bls_vs h4 h2
      subst e
      exact ⟨a, ns, rfl, h3, p _ H ι (Ext.refl _ _) rep rfl⟩
    · exact p.elim
  · exact p.elim
theorem maxI_mem : ∀ (ns : List Int), ns ≠ [] → maxI ns ∈ ns ∧ ∀ y ∈ ns, y ≤ maxI ns
  | [], h => absurd rfl h
  | [x], _ => by simp [maxI]
  | x :: y :: r, _ => by
    obtain ⟨h1, h2⟩ := maxI_mem (y :: r) (by simp)
    refine ⟨?_, fun z hz => ?_⟩
    · unfold maxI
      rcases Int.le_total x (maxI (y :: r)) with h | h
      · rw [Int.max_eq_right h]; exact List.mem_cons_of_mem _ h1
      · rw [Int.max_eq_left h]; exact List.mem_cons_self ..
    · unfold maxI
      rcases List.mem_cons.mp hz with e | e
      · rw [e]; exact Int.le_max_left _ _
      · exact Int.le_trans (h2 z e) (Int.le_max_right _ _)
theorem minI_mem : ∀ (ns : List Int), ns ≠ [] → minI ns ∈ ns ∧ ∀ y ∈ ns, minI ns ≤ y
  | [], h => absurd rfl h
  | [x], _ => by simp [minI]
  | x :: y :: r, _ => by
    obtain ⟨h1, h2⟩ := minI_mem (y :: r) (by simp)
    refine ⟨?_, fun z hz => ?_⟩
    · unfold minI
      rcases Int.le_total x (minI (y :: r)) with h | h
      · rw [Int.min_eq_left h]; exact List.mem_cons_self ..
      · rw [Int.min_eq_right h]; exact List.mem_cons_of_mem _ h1
    · unfold minI
      rcases List.mem_cons.mp hz with e | e
      · rw [e]; exact Int.min_le_left _ _
      · exact Int.le_trans (Int.min_le_right _ _) (h2 z e)
theorem v_max {G : Gm} : VN G vMax (rMax G.K) := by
  intro W ι H S ds vs Q rep rvs p
  unfold vMax at p
  split at p
  · split at p
    · rename_i n ns hns
      obtain ⟨v, rfl, r⟩ := args1 rvs
      obtain ⟨es, h1, h2⟩ := Option.bind_eq_some_iff.mp hns
      obtain ⟨a, us, rfl, h3, h4⟩ := lst_of rep r h1
      obtain ⟨rfl, _⟩ := ints_vs h4 h2
      refine ⟨a, n :: ns, rfl, h3, by simp, fun m hm hm2 => ?_⟩
      obtain ⟨g1, g2⟩ := maxI_mem (n :: ns) (by simp)
      have e : m = maxI (n :: ns) := Int.le_antisymm (g2 m hm) (hm2 _ g1)
      rw [e]
      exact p _ H ι (Ext.refl _ _) rep rfl
    · exact p.elim
  · exact p.elim
theorem v_min {G : Gm} : VN G vMin (rMin G.K) := by
  intro W ι H S ds vs Q rep rvs p
  unfold vMin at p
  split at p
  · split at p
    · rename_i n ns hns
      obtain ⟨v, rfl, r⟩ := args1 rvs
      obtain ⟨es, h1, h2⟩ := Option.bind_eq_some_iff.mp hns
      obtain ⟨a, us, rfl, h3, h4⟩ := lst_of rep r h1
      obtain ⟨rfl, _⟩ := ints_vs h4 h2
      refine ⟨a, n :: ns, rfl, h3, by simp, fun m hm hm2 => ?_⟩
      obtain ⟨g1, g2⟩ := minI_mem (n :: ns) (by simp)
      have e : m = minI (n :: ns) := Int.le_antisymm (hm2 _ g1) (g2 m hm)
      rw [e]
      exact p _ H ι (Ext.refl _ _) rep rfl
    · exact p.elim
  · exact p.elim
theorem v_tuple {G : Gm} : VN G vTuple (fun xs H Q => ∃ p ys, xs = [.ref p] ∧ ((SqL G.K H p ys ∧ ∀ l, H l = none → Q (.ref l) (upd H l (.tup ys))) ∨ (SqT G.K H p ys ∧ Q (.ref p) H))) := by
  intro W ι H S ds vs Q rep rvs p
  unfold vTuple at p
  split at p
  · obtain ⟨v, rfl, r⟩ := args1 rvs
    obtain ⟨a, us, rfl, h1, h2⟩ := r
    exact ⟨a, us, rfl, .inr ⟨h1, p _ H ι (Ext.refl _ _) rep ⟨a, us, rfl, h1, h2⟩⟩⟩
  · split at p
    · rename_i es hes
      obtain ⟨v, rfl, r⟩ := args1 rvs
      obtain ⟨a, us, rfl, h3, h4⟩ := lst_of rep r hes
      exact ⟨a, us, rfl, .inl ⟨h3, fun q hq => post_tup (Wp := W) rep h4 hq p⟩⟩
    · exact p.elim
  · exact p.elim
theorem v_list {G : Gm} : VN G vList (fun xs H Q => ∃ p ys, xs = [.ref p] ∧ (SqL G.K H p ys ∨ SqT G.K H p ys) ∧ ∀ l, H l = none → Q (.ref l) (upd H l (.lst ys))) := by
  intro W ι H S ds vs Q rep rvs p
  unfold vList at p
  split at p
  · obtain ⟨v, rfl, r⟩ := args1 rvs
    obtain ⟨a, us, rfl, h1, h2⟩ := r
    exact ⟨a, us, rfl, .inr h1, fun q hq => post_lst rep h2 hq p⟩
  · split at p
    · rename_i es hes
      obtain ⟨v, rfl, r⟩ := args1 rvs
      obtain ⟨a, us, rfl, h3, h4⟩ := lst_of rep r hes
      exact ⟨a, us, rfl, .inl h3, fun q hq => post_lst rep h4 hq p⟩
    · exact p.elim
  · exact p.elim
/-- repr of data, where nothing is being shown around -/
def rRepr (K : PySem.W.Frag) : List V → Hp → VK → Prop := fun xs H Q => ∃ v d, xs = [v] ∧ Dp K H v d ∧ okShow d ∧ Q (.str d.shown) H
theorem call_repr (hg : X.A.guards = some []) (hu : X.A.units + 60 < cLine) : CallR X (.builtin "repr") (rRepr X.K) := by
  intro pins s σ H xs us Q I r h
  obtain ⟨v, d, rfl, hd, ⟨h1, h2, h3, h4⟩, q⟩ := h
  obtain ⟨u, rfl, rx⟩ := vals1 r
  have hz : d.shown.length ≤ sizeLine := by rw [← line_eq]; exact h4
  obtain ⟨as, rd⟩ := Dp.reads I d v u hd rx
  have big : ∀ {a : Addr}, u = .ref a → wpAny (model X.prog X.w) X.A (call (.builtin "repr") [u]) (EP X pins σ Q) X.xe s := fun {a} e => by
    subst e
    refine repr_of_reads' rd h1 (PyData.noDict_hsm h2) hg (by omega) (fun _ _ e => e) (fun h' t' tk hk => ?_) hz
    exact ⟨.str d.shown, H, I.kept (t' := tk) hk, ⟨t', rfl⟩, q⟩
  cases hd with
  | non => cases rx; exact PySem.P.repr_of_none ⟨.str _, H, I.tok _, ⟨_, rfl⟩, q⟩
  | bl b => cases rx; exact PySem.P.repr_of_bool ⟨.str _, H, I.tok _, ⟨_, rfl⟩, q⟩
  | int i =>
    obtain ⟨t, rfl⟩ := rx
    exact PySem.P.repr_of_int (by simpa [PyData.showable] using h1) ⟨.str _, H, I.tok _, ⟨_, rfl⟩, q⟩
  | str x =>
    obtain ⟨t, rfl⟩ := rx
    exact PySem.P.repr_of_str ⟨.str _, H, I.tok _, ⟨_, rfl⟩, q⟩ hz
  | lst _ _ => exact big rx
  | tup _ _ => exact big rx
theorem v_repr {G : Gm} : VN G vRepr (rRepr G.K) := by
  intro W ι H S ds vs Q rep rvs p
  unfold vRepr at p
  split at p
  · split at p
    · rename_i q hq
      split at p
      · rename_i hs
        obtain ⟨v, rfl, r⟩ := args1 rvs
        refine ⟨v, q, rfl, dp_of rep 40 _ v q r hq, hs, p _ H ι (Ext.refl _ _) rep ?_⟩
        show V.str _ = V.str _
        congr 1
      · exact p.elim
    · exact p.elim
  · exact p.elim
end
end Fz

/-! Fz7: defs and their calls. -/
namespace Fz
open PySem PySem.Spec PyProof.Rows L2

abbrev Fn := List D → Sto → R D
def flR (n : Nat) (r : Fl) : R D := match r with
  | .nx _ S => gcV n .non S
  | .rt d S => gcV n d S
  | .exc C fs S => .exc C fs S
  | _ => .stuck
/-- a def of np parameters and N names in all -/
def defF (np N : Nat) (body : Sm) : Fn := fun ds S => if ds.length = np then flR S.length (body (ds.map some ++ List.replicate (N - np) none) S) else .stuck
/-- the def at f does as F; nothing is being shown around -/
structure FnG (P : Program) (w : World) (K : PySem.W.Frag) (mg : Str → Option Value) (base : Heap) (k : Nat) (f : Addr) (fd : FuncData) (ps : List Str) (F : Fn) : Prop where
  run : ∀ (A : Around) (outer : List Env) (s : Shared) (H : Hp) (args : Args) (us : List Value) (vs : List V) (Q : VK) (E : XK) (ι : List Addr) (ds : List D) (S : Sto),
    A.guards = some [] → Room k A → Env0 P w K mg base A outer s H → BindsTo s fd args (ps.zip us) → Vals vs us → Rep ⟨K, mg⟩ ι H S → RVs ⟨K, mg⟩ ι H ds vs → ds.length = ps.length →
    Post ⟨K, mg⟩ (RV ⟨K, mg⟩) (fun c d H' => E c d H') ι H (F ds S) Q → codeAny (model P w) A (.call (.ref f) args) (CR (L2.CX P w) outer P w H s Q E) s
theorem FnG.mono {P : Program} {w : World} {K : PySem.W.Frag} {mg : Str → Option Value} {base : Heap} {j k : Nat} {f : Addr} {fd : FuncData} {ps : List Str} {F : Fn} (h : FnG P w K mg base j f fd ps F) (le : j ≤ k) : FnG P w K mg base k f fd ps F :=
  ⟨fun A outer s H args us vs Q E ι ds S hg hr => h.run A outer s H args us vs Q E ι ds S hg (hr.mono le)⟩
section
variable {P : Program} {w : World} {K : PySem.W.Frag} {mg : Str → Option Value} {base : Heap}
theorem start_env {G : Gm} {ι : List Addr} {H : Hp} {N : List Str} {ds : List D} {vs : List V} (h : RVs G ι H ds vs) : EnvR G ι H (ds.map some ++ List.replicate (N.length - ds.length) none) (L2.start N vs) := by
  have hl := h.length
  refine ⟨by unfold L2.start; simp [hl], fun i d q => ?_⟩
  by_cases hi : i < ds.length
  · rw [List.getElem?_append_left (by simpa using hi), List.getElem?_map] at q
    have q2 : ds[i]? = some d := by
      cases e : ds[i]? with
      | none => rw [e] at q; cases q
      | some x => rw [e] at q; cases q; rfl
    obtain ⟨v, h1, h2⟩ := h.get q2
    refine ⟨v, ?_, h2⟩
    unfold L2.start
    rw [List.getElem?_append_left (by simpa [← hl] using hi), List.getElem?_map, h1]
    rfl
  · rw [List.getElem?_append_right (by simpa using hi), List.getElem?_replicate] at q
    split at q <;> cases q
theorem flR_post {G : Gm} {W : WS} {ι : List Addr} {H : Hp} {n : Nat} {r : Fl} {Q : VK} {E : WP} (hn : ι.length = n) (hW : ∀ c d σ H', W c d σ H' ↔ E c d H') (p : Post G (RV G) E ι H (flR n r) Q) : PostS G W ι H r { nx := fun _ H' => Q .non H', rt := Q } := by
  cases r with
  | nx env S => exact fun σ H' ι' ex rep er => gc_post (d := .non) (v := .non) hn ex rep rfl p
  | rt d S => exact fun v H' ι' ex rep rv => gc_post hn ex rep rv p
  | exc C fs S => exact fun c dx fv σ H' ι' m ex rep q z => (hW _ _ _ _).mpr (p c dx fv H' ι' m ex rep q z)
  | bk env S => exact p.elim
  | ct env S => exact p.elim
  | stuck => exact p.elim
/-- a def of the text by what its body does -/
theorem fng_of {k : Nat} {f : Addr} {name qual : Str} {params : Arguments} {body : List Stmt} {scope : Scope} {dV kV doc pm cdv ct oc : Value} {an od : Option Addr} {osl : Array (Option Value)} {N ps : List Str} {fb : Sm}
    (lk : K.lookup f = some ⟨oc, od, .func (PySem.W.fnOf name qual params body scope dV kV doc pm an cdv ct), osl⟩) (hcd : PySem.W.codeIn K cdv qual = true) (Sc : FnScope N ps scope)
    (hbody : ∀ (A : Around) (outer : List Env) (s : Shared) (H : Hp) (E : XK), A.guards = some [] → Room k (A.deeper (envOfC qual scope s.heap.objs.size f cdv)) →
      FSs (cxOf (L2.CX P w) P w K mg base N qual scope f cdv A outer s H E) (fun c d _ H' => E c d H') body fb) :
    FnG P w K mg base (k + 1) f (PySem.W.fnOf name qual params body scope dV kV doc pm an cdv ct) ps (defF ps.length N.length fb) := by
  constructor
  intro A outer s H args us vs Q E ι ds S gd room e0 bnd vals rep rvs hlen post
  have kx : K.In s.heap :=
    e0.mod.kin.keeps fun b o e => (e0.bs b o e).1
  have nl : s.heap.NoLimit :=
    e0.mod.nolimit.keeps fun b o e => (e0.bs b o e).1
  have lvs : vs.length = ps.length := rvs.length.symm.trans hlen
  have kinds : ∀ y ∈ ps.zip us, scope.names.lookup y.1 = some .local ∨ (scope.names.lookup y.1 = some .cell ∧
      ((cellsFrom (s.heap.objs.size + 1) scope.names []).lookup y.1).isSome = true) := by
    rintro ⟨n, v⟩ hy
    cases Sc.par n (List.of_mem_zip hy).1 with
    | inl q => exact .inl q
    | inr q => exact .inr ⟨q, PySem.W.cellsFrom_some _ _ _ (.inl q)⟩
  apply codeAny_call_function room.depth (kx _ _ lk) rfl Sc.co Sc.gen rfl (PySem.W.codeRec_of kx hcd) (bnd _ _ _ _ ?_)
  apply wpAny_newFunctionEnv_cells Sc.kind kinds
  intro env he s1 x
  subst he
  refine ⟨nl.keeps x.toInCall.keep, codeAny_func ?_⟩
  have fs := hbody A outer s H E gd (room.deeper _)
  have inv : Inv (cxOf (L2.CX P w) P w K mg base N qual scope f cdv A outer s H E) [] (L2.start N vs) H s1 :=
    inv_start Sc room.hd e0 lvs vals x
  have post' : Post ⟨K, mg⟩ (RV ⟨K, mg⟩) (fun c d H' => E c d H') ι H (flR S.length (fb (ds.map some ++ List.replicate (N.length - ds.length) none) S)) Q := by
    unfold defF at post
    rw [if_pos hlen, ← hlen] at post
    exact post
  have tsd : tS (gm (cxOf (L2.CX P w) P w K mg base N qual scope f cdv A outer s H E)) (fun c d _ H' => E c d H') fb { nx := fun _ H' => Q .non H', rt := Q } (L2.start N vs) H :=
    ⟨ι, _, S, rep, start_env rvs, flR_post rep.len (fun _ _ _ _ => Iff.rfl) post'⟩
  refine wpAny_mono (fs.pss.run [] s1 (L2.start N vs) H _ inv tsd) (fun fl s' hs => ?_) fun e s' hs => hs
  cases fl with
  | ret u =>
    obtain ⟨v, σ', H', J, rv, q⟩ := hs
    exact ⟨v, H', J.os, J.bare, J.base, J.hok, rv, q⟩
  | next =>
    obtain ⟨σ', H', J, q⟩ := hs
    exact ⟨.non, H', J.os, J.bare, J.base, J.hok, rfl, q⟩
  | brk => exact False.elim hs.choose_spec.choose_spec.2
  | cont => exact False.elim hs.choose_spec.choose_spec.2
end

/-! ### calls -/
def permL {α : Type} (pm : List Nat) (l : List α) : List α := pm.filterMap fun i => l[i]?
theorem RVs.perm {G : Gm} {ι : List Addr} {H : Hp} {ds : List D} {vs : List V} (h : RVs G ι H ds vs) : ∀ pm : List Nat, RVs G ι H (permL pm ds) (permL pm vs)
  | [] => rfl
  | i :: pm => by
    have ih := RVs.perm h pm
    unfold permL at ih ⊢
    by_cases hi : i < ds.length
    · obtain ⟨v, h1, h2⟩ := h.get (show ds[i]? = some ds[i] by simp [hi])
      rw [List.filterMap_cons_some (b := ds[i]) (by simp [hi]), List.filterMap_cons_some (b := v) h1]
      exact ⟨v, _, rfl, h2, ih⟩
    · rw [List.filterMap_cons_none (by simp; omega), List.filterMap_cons_none (by rw [List.getElem?_eq_none]; rw [← h.length]; omega)]
      exact ih
theorem Vals.perm {vs : List V} {us : List Value} (h : Vals vs us) : ∀ pm : List Nat, Vals (permL pm vs) (permL pm us)
  | [] => .nil
  | i :: pm => by
    have ih := Fz.Vals.perm h pm
    unfold permL at ih ⊢
    by_cases hi : i < vs.length
    · obtain ⟨v, h1, h2⟩ := L2.Vals.get h (show vs[i]? = some vs[i] by simp [hi])
      rw [List.filterMap_cons_some (b := vs[i]) (by simp [hi]), List.filterMap_cons_some (b := v) h1]
      exact .cons h2 ih
    · rw [List.filterMap_cons_none (by simp; omega), List.filterMap_cons_none (by rw [List.getElem?_eq_none]; rw [← h.length]; omega)]
      exact ih
/-- how n arguments, then the keywords ks, are bound: pm by place; defaults behind them -/
def BindK (K : PySem.W.Frag) (fd : FuncData) (ps : List Str) (n : Nat) (ks : List Str) (pm : List Nat) (dvs : List Value) : Prop :=
  ∀ (s : Shared) (us ws : List Value), K.In s.heap → us.length = n → ws.length = ks.length → BindsTo s fd ⟨us, ks.zip ws⟩ (ps.zip (permL pm (us ++ ws ++ dvs)))
/-- f(..): the arguments, the keywords' values, the defaults -/
def cF (n m : Nat) (pm : List Nat) (dds : List D) (np : Nat) (F : Fn) : Fn := fun ds S => if ds.length = n + m ∧ (permL pm (ds ++ dds)).length = np then F (permL pm (ds ++ dds)) S else .stuck
section
variable {X : Cx} {W : WS} {k : Nat} {f : Addr} {fd : FuncData} {ps ks : List Str} {F : Fn} {x : Str} {p pos : Pos} {e : Expr} {es : List Expr} {fs fk : As} {n : Nat} {pm : List Nat} {dds : List D} {dvs : List V} {dus : List Value}
theorem run_g {pins : List (Addr × Obj)} {σ : L2.St} {H : Hp} {s : Shared} {Q : VK} {us ws : List Value} {vs zs : List V} {ι : List Addr} {ds : List D} {S : Sto} (hF : FnG X.prog X.w X.K X.mg X.base k f fd ps F) (hgd : X.A.guards = some []) (hr : Room k X.A) (tk : Takes X W)
    (hb : BindK X.K fd ps n ks pm dus) (hd : Vals dvs dus) (hdd : ∀ ι H, RVs (gm X) ι H dds dvs) (hn : us.length = n) (hm : ws.length = ks.length)
    (I : Inv X pins σ H s) (r : Vals vs us) (rz : Vals zs ws) (rep : Rep (gm X) ι H S) (rvs : RVs (gm X) ι H ds (vs ++ zs)) (h : Post (gm X) (RV (gm X)) (fun c d H' => W c d σ H') ι H (cF n ks.length pm dds ps.length F ds S) Q) :
    wpAny (model X.prog X.w) X.A (call (.ref f) us (ks.zip ws)) (EP X pins σ Q) X.xe s := by
  unfold cF at h
  split at h
  · rename_i hl
    have rall : RVs (gm X) ι H (permL pm (ds ++ dds)) (permL pm (vs ++ zs ++ dvs)) := RVs.perm (RVs.append rvs (hdd ι H)) pm
    have vall : Vals (permL pm (vs ++ zs ++ dvs)) (permL pm (us ++ ws ++ dus)) := Fz.Vals.perm ((r.append rz).append hd) pm
    apply wpAny_call
    refine codeAny_mono (hF.run X.A X.stack s H ⟨us, ks.zip ws⟩ _ _ Q (fun c d H' => W c d σ H') ι _ S hgd hr I.env0 (hb s us ws I.kIn hn hm) vall rep rall hl.2 h) fun res s' hq => ?_
    cases res with
    | error er => exact passAt tk σ pins H s er s' I hq
    | ok fl =>
      cases fl with
      | ret u => exact I.after hq
      | next => exact False.elim hq
      | brk => exact False.elim hq
      | cont => exact False.elim hq
  · exact h.elim
theorem len_vs {G : Gm} {ι : List Addr} {H : Hp} {ds : List D} {vs : List V} {us : List Value} (r : Vals vs us) (rv : RVs G ι H ds vs) : us.length = ds.length := by rw [rv.length, L2.Vals.length r]
theorem fe_call (hF : FnG X.prog X.w X.K X.mg X.base k f fd ps F) (hgd : X.A.guards = some []) (hr : Room k X.A) (tk : Takes X W) (hm : X.mg x = some (.ref f)) (hk : PySem.W.keepIn X.K (.ref f) = true) (hb : BindK X.K fd ps n [] pm dus) (hd : Vals dvs dus) (hdd : ∀ ι H, RVs (gm X) ι H dds dvs)
    (ha : FA X W (e :: es) fs) (hg : Gl X x := by rfl) (hdb : (x == ("__debug__" : Str)) = false := by decide) (he : starEach (e :: es) X.env = (false, eval e X.env) :: starEach es X.env := by rfl) (hpl : (backTo pos (starEach es X.env)).any (·.1) = false := by rfl) :
    FE X W (.Call (.Name x p) (e :: es) [] pos) (eN (cF n 0 pm dds ps.length F) fs) := by
  constructor
  constructor
  rintro pins s σ H Q I ⟨ι, env, S, rep, er, post⟩
  refine wpAny_Call_Name_kw (ld_glob I hg hm ?_ hdb)
  have run := ha.pa.run pos pins s σ H _ I ⟨ι, env, S, rep, er, Post.bind post⟩
  refine PySem.W.callWith_K (h₀ := X.base) I.ok.mod.kin hk (thn run fun us s1 hq => ?_) he hpl
  obtain ⟨vs, H1, I1, r, ds, S1, ι1, ex, rep1, rvs, q⟩ := hq
  refine ⟨I1.kIn, ?_⟩
  by_cases hl : ds.length = n
  · exact run_g (ks := []) (ws := []) (zs := []) hF hgd hr tk hb hd hdd ((len_vs r rvs).trans hl) rfl I1 r .nil rep1 (by rw [List.append_nil]; exact rvs) q
  · unfold cF at q
    rw [if_neg (fun z => hl z.1)] at q
    exact q.elim
theorem fe_call0 (hF : FnG X.prog X.w X.K X.mg X.base k f fd ps F) (hgd : X.A.guards = some []) (hr : Room k X.A) (tk : Takes X W) (hm : X.mg x = some (.ref f)) (hk : PySem.W.keepIn X.K (.ref f) = true) (hb : BindK X.K fd ps 0 [] pm dus) (hd : Vals dvs dus) (hdd : ∀ ι H, RVs (gm X) ι H dds dvs)
    (hg : Gl X x := by rfl) (hdb : (x == ("__debug__" : Str)) = false := by decide) : FE X W (.Call (.Name x p) [] [] pos) (eN (cF 0 0 pm dds ps.length F) aNil) := by
  constructor
  constructor
  rintro pins s σ H Q I ⟨ι, env, S, rep, er, post⟩
  refine wpAny_Call_Name_kw (ld_glob I hg hm ?_ hdb)
  exact PySem.W.callWith_K0 I.kIn hk (run_g (ks := []) (us := []) (ws := []) (vs := []) (zs := []) (ds := []) hF hgd hr tk hb hd hdd rfl rfl I .nil .nil rep rfl post)
/-- the keywords' values -/
structure FK (X : Cx) (W : WS) (kws : List Keyword) (f : As) : Prop where
  pk : PK X kws (tA (gm X) W f)
theorem PK.weak {kws : List Keyword} {t t' : TA} (h : PK X kws t) (k : ∀ σ H Q, t' σ H Q → t σ H Q) : PK X kws t' := ⟨fun pos pins s σ H Q I q => h.run pos pins s σ H Q I (k σ H Q q)⟩
theorem fk_nil : FK X W [] aNil := by
  refine ⟨PK.weak pk_nil fun σ H Q h => ?_⟩
  obtain ⟨ι, env, S, rep, er, p⟩ := h
  exact p [] H ι (Ext.refl _ _) rep rfl
theorem fk_cons {kws : List Keyword} {nm : Option Str} {kpos : Pos} {fa : E} (ha : FE X W e fa) (hr : FK X W kws fs) : FK X W (⟨nm, e, kpos⟩ :: kws) (aCons fa fs) := by
  refine ⟨PK.weak (pk_cons ha.pe hr.pk) fun σ H Q h => ?_⟩
  obtain ⟨ι, env, S, rep, er, p⟩ := h
  refine ⟨ι, env, S, rep, er, Post.imp (Post.bind p) fun x H1 q => ?_⟩
  obtain ⟨d, S1, ι1, e1, rep1, rv, q⟩ := q
  refine ⟨ι1, env, S1, rep1, er.ext e1, Post.imp (Post.bind q) fun xs H2 q2 => ?_⟩
  obtain ⟨ds, S2, ι2, e2, rep2, rvs, q2⟩ := q2
  exact q2 (x :: xs) H2 ι2 (Ext.refl _ _) rep2 ⟨x, xs, rfl, RV.ext e2 _ _ rv, rvs⟩
def aApp (n m : Nat) (a b : As) : As := fun env S => (a env S).bind fun xs S1 => (b env S1).bind fun ys S2 => if xs.length = n ∧ ys.length = m then .ok (xs ++ ys) S2 else .stuck
theorem fe_callK {kws : List Keyword} (hF : FnG X.prog X.w X.K X.mg X.base k f fd ps F) (hgd : X.A.guards = some []) (hr : Room k X.A) (tk : Takes X W) (hm : X.mg x = some (.ref f)) (hk : PySem.W.keepIn X.K (.ref f) = true) (hb : BindK X.K fd ps n ks pm dus) (hd : Vals dvs dus) (hdd : ∀ ι H, RVs (gm X) ι H dds dvs)
    (ha : FA X W (e :: es) fs) (hkw : FK X W kws fk) (hall : (backToKw pos (keywordEach kws X.env)).all (·.1.isSome) = true := by rfl) (hks : (backToKw pos (keywordEach kws X.env)).filterMap (·.1) = ks := by rfl)
    (hlen : (e :: es).length = n := by rfl) (hlk : kws.length = ks.length := by rfl) (hg : Gl X x := by rfl) (hdb : (x == ("__debug__" : Str)) = false := by decide) (he : starEach (e :: es) X.env = (false, eval e X.env) :: starEach es X.env := by rfl)
    (hpl : ((backTo pos (starEach (e :: es) X.env)).any (·.1) || (backToKw pos (keywordEach kws X.env)).any (·.1.isNone)) = false := by rfl) :
    FE X W (.Call (.Name x p) (e :: es) kws pos) (eN (cF n ks.length pm dds ps.length F) (aApp n ks.length fs fk)) := by
  constructor
  constructor
  rintro pins s σ H Q I ⟨ι, env, S, rep, er, post⟩
  refine wpAny_Call_Name_kw (ld_glob I hg hm ?_ hdb)
  have post' : Post (gm X) (RV (gm X)) (fun c d H' => W c d σ H') ι H ((fs env S).bind fun xs S1 => (fk env S1).bind fun ys S2 => (if xs.length = n ∧ ys.length = ks.length then R.ok (xs ++ ys) S2 else .stuck).bind (cF n ks.length pm dds ps.length F)) Q := by
    have z : Post (gm X) (RV (gm X)) (fun c d H' => W c d σ H') ι H ((aApp n ks.length fs fk env S).bind (cF n ks.length pm dds ps.length F)) Q := post
    unfold aApp at z
    simpa only [bind_assoc] using z
  have run := ha.pa.run pos pins s σ H _ I ⟨ι, env, S, rep, er, Post.bind post'⟩
  refine PySem.W.callWith_KW (h₀ := X.base) I.ok.mod.kin hk hall (thn run fun us s1 hq => ?_) hpl he
  obtain ⟨vs, H1, I1, r, ds, S1, ι1, ex, rep1, rvs, q⟩ := hq
  have run2 := hkw.pk.run pos pins s1 σ H1 _ I1 ⟨ι1, env, S1, rep1, er.ext ex, Post.bind q⟩
  refine thn run2 fun ws s2 hq2 => ?_
  obtain ⟨zs, H2, I2, rz, es', S2, ι2, ex2, rep2, rzs, q2⟩ := hq2
  refine ⟨I2.kIn, ?_⟩
  rw [hks]
  have rall := RVs.append (RVs.ext ex2 _ _ rvs) rzs
  by_cases hl : ds.length = n ∧ es'.length = ks.length
  · rw [if_pos hl] at q2
    exact run_g hF hgd hr tk hb hd hdd ((len_vs r rvs).trans hl.1) ((len_vs rz rzs).trans hl.2) I2 r rz rep2 rall q2
  · rw [if_neg hl] at q2
    exact q2.elim
theorem fe_callK0 {kws : List Keyword} (hF : FnG X.prog X.w X.K X.mg X.base k f fd ps F) (hgd : X.A.guards = some []) (hr : Room k X.A) (tk : Takes X W) (hm : X.mg x = some (.ref f)) (hk : PySem.W.keepIn X.K (.ref f) = true) (hb : BindK X.K fd ps 0 ks pm dus) (hd : Vals dvs dus) (hdd : ∀ ι H, RVs (gm X) ι H dds dvs)
    (hkw : FK X W kws fk) (hall : (backToKw pos (keywordEach kws X.env)).all (·.1.isSome) = true := by rfl) (hks : (backToKw pos (keywordEach kws X.env)).filterMap (·.1) = ks := by rfl)
    (hlk : kws.length = ks.length := by rfl) (hg : Gl X x := by rfl) (hdb : (x == ("__debug__" : Str)) = false := by decide)
    (hpl : ((backTo pos (starEach [] X.env)).any (·.1) || (backToKw pos (keywordEach kws X.env)).any (·.1.isNone)) = false := by rfl) :
    FE X W (.Call (.Name x p) [] kws pos) (eN (cF 0 ks.length pm dds ps.length F) fk) := by
  constructor
  constructor
  rintro pins s σ H Q I ⟨ι, env, S, rep, er, post⟩
  refine wpAny_Call_Name_kw (ld_glob I hg hm ?_ hdb)
  have run := hkw.pk.run pos pins s σ H _ I ⟨ι, env, S, rep, er, Post.bind post⟩
  refine PySem.W.callWith_KW0 (h₀ := X.base) I.ok.mod.kin hk hall (thn run fun us s1 hq => ?_) hpl
  obtain ⟨zs, H1, I1, rz, ds, S1, ι1, ex, rep1, rzs, q⟩ := hq
  refine ⟨I1.kIn, ?_⟩
  rw [hks]
  by_cases hl : ds.length = 0 + ks.length
  · exact run_g (us := []) (vs := []) hF hgd hr tk hb hd hdd rfl (((len_vs rz rzs).trans hl).trans (Nat.zero_add _)) I1 .nil rz rep1 rzs q
  · unfold cF at q
    rw [if_neg (fun z => hl z.1)] at q
    exact q.elim
end
end Fz

/-! Fz8: methods, isinstance, stars, x[::-1]; the law's own head. -/
namespace Fz
open PySem PySem.Spec PyProof.Rows L2

/-! ### the type of a value -/
def tyN (d : D) (S : Sto) : Option String := match d with
  | .non => some "NoneType"
  | .bl _ => some "bool"
  | .int _ => some "int"
  | .str _ => some "str"
  | .tup _ => some "tuple"
  | .frl _ => some "list"
  | .ref n => match S[n]? with
    | some (.lst _) => some "list"
    | some (.dk _) => some "dict"
    | _ => none
  | .fn _ => none
  | .lam _ => none
  | .lsv _ => some "list"
  | .dct _ _ => some "dict"
theorem tyN_ok {G : Gm} {ι : List Addr} {H : Hp} {S : Sto} {d : D} {v : V} {t : String} (rep : Rep G ι H S) (r : RV G ι H d v) (h : tyN d S = some t) : TyX G.K H v (.type t) := by
  unfold tyN at h
  split at h
  · cases h; have e : v = .non := r; subst e; exact .base .non
  · cases h; rename_i b; have e : v = .bl b := r; subst e; exact .base (.bl b)
  · cases h; rename_i b; have e : v = .int b := r; subst e; exact .base (.int b)
  · cases h; have e : v = .str _ := r; subst e; exact .base (.str _)
  · cases h
    obtain ⟨a, vs, rfl, h1, h2⟩ := r
    rcases h1 with (h1 | ⟨o, h1⟩) | ⟨o, its, n, h1, hc, _⟩
    · exact .base (.tup h1)
    · exact .fTuple h1
    · exact .kTuple h1 hc
  · cases h
    obtain ⟨a, vs, rfl, h1, h2⟩ := r
    rcases h1 with ⟨o, h1⟩ | ⟨o, its, n, h1, hc, _⟩
    · exact .base (.frz h1)
    · exact .kList h1 hc
  · split at h
    · cases h
      rename_i hc
      obtain ⟨a, h1, rfl⟩ := r
      obtain ⟨vs, h2, _⟩ := rep.cell _ _ a hc h1
      exact .base (.lst h2)
    · cases h
      rename_i hc
      obtain ⟨a, h1, rfl⟩ := r
      obtain ⟨vs, h2, _⟩ := rep.cell _ _ a hc h1
      exact .base (.dK h2)
    · cases h
  · cases h
  · cases h
  · exact r.elim
  · exact r.elim
def vIsi (b : String) (d : D) (S : Sto) : R D := match (tyN d S).bind fun a => kitB a b with
  | some r => .ok (.bl r) S
  | none => .stuck
section
variable {X : Cx} {W : WS} {e o : Expr} {es : List Expr} {f fo : E} {fs : As} {p pos p2 apos sp : Pos}
theorem fe_isi {b : String} {nb : Str} (hm : X.mg "isinstance" = none) (hmb : X.mg nb = none) (hvb : bootBuiltins nb = some (.type b)) (he : FE X W e f) (hg : Gl X "isinstance" := by rfl) (hgb : Gl X nb := by rfl)
    (hn : nb ≠ "__name__" := by decide) (hd : (nb == ("__debug__" : Str)) = false := by decide)
    (h1 : starEach [e, .Name nb p2] X.env = (false, eval e X.env) :: starEach [.Name nb p2] X.env := by rfl) (h2 : starEach [.Name nb p2] X.env = (false, eval (.Name nb p2) X.env) :: starEach [] X.env := by rfl)
    (hpl : (backTo pos (starEach [.Name nb p2] X.env)).any (·.1) = false := by rfl) : FE X W (.Call (.Name "isinstance" p) [e, .Name nb p2] [] pos) (e1 (vIsi b) f) := by
  refine ⟨PE.weak (pe_callB call_isi hg hm PyProof.Rows.boot_isinstance (pa_cons he.pe (pa_cons (pe_bltn (v := .ty b) hgb hmb hvb rfl hn hd) pa_nil h2) h1) (by decide) (by decide) h1 hpl) fun σ H Q h => ?_⟩
  obtain ⟨ι, env, S, rep, er, q⟩ := h
  refine ⟨ι, env, S, rep, er, Post.imp (Post.bind q) fun v H1 q => ?_⟩
  obtain ⟨d, S1, ι1, e1, rep1, rv, q⟩ := q
  unfold vIsi at q
  split at q
  · rename_i r hr
    obtain ⟨a, ha, hk⟩ := Option.bind_eq_some_iff.mp hr
    exact ⟨v, .ty b, .type a, .type b, r, rfl, .ty b, tyN_ok rep1 rv ha, kit_ty hk, q _ H1 ι1 (Ext.refl _ _) rep1 rfl⟩
  · exact q.elim

/-! ### methods of built-in types -/
def eM (T : String) (g : D → List D → Sto → R D) (a : E) (fs : As) : E := fun env S => (a env S).bind fun o S1 => if tyN o S1 = some T then (fs env S1).bind fun xs S2 => g o xs S2 else .stuck
/-- a method told by its reading -/
def VM (G : Gm) (g : D → List D → Sto → R D) (r : V → List V → Hp → VK → Prop) : Prop := ∀ (W : WP) (ι : List Addr) (H : Hp) (S : Sto) (o : D) (ds : List D) (v : V) (vs : List V) (Q : VK), Rep G ι H S → RV G ι H o v → RVs G ι H ds vs → Post G (RV G) W ι H (g o ds S) Q → r v vs H Q
theorem tyV_of {G : Gm} {ι : List Addr} {H : Hp} {S : Sto} {d : D} {v : V} {T : String} (rep : Rep G ι H S) (r : RV G ι H d v) (h : tyN d S = some T) (ht : T = "str" ∨ T = "list" ∨ T = "dict") : tyV G.K T v H := by
  unfold tyN at h
  split at h
  · cases h; rcases ht with z | z | z <;> exact absurd z (by decide)
  · cases h; rcases ht with z | z | z <;> exact absurd z (by decide)
  · cases h; rcases ht with z | z | z <;> exact absurd z (by decide)
  · cases h; have e : v = .str _ := r; subst e; exact rfl
  · cases h; rcases ht with z | z | z <;> exact absurd z (by decide)
  · cases h
    obtain ⟨a, vs, rfl, h1, h2⟩ := r
    exact .inl ⟨rfl, vs, h1.sql⟩
  · split at h
    · cases h
      rename_i hc
      obtain ⟨a, h1, rfl⟩ := r
      obtain ⟨vs, h2, _⟩ := rep.cell _ _ a hc h1
      exact .inl ⟨rfl, vs, .of h2⟩
    · cases h
      rename_i hc
      obtain ⟨a, h1, rfl⟩ := r
      obtain ⟨vs, h2, _⟩ := rep.cell _ _ a hc h1
      exact .inr (.inr (.inl ⟨rfl, .inl ⟨vs, h2⟩⟩))
    · cases h
  · cases h
  · cases h
  · exact r.elim
  · exact r.elim
theorem fe_bm {T id : String} {name : Str} {r : V → List V → Hp → VK → Prop} {g : D → List D → Sto → R D} (pa : PlainAttrs T) (slot : Slot T name id) (hty : typeOf (.builtin id) = pure (.type "method_descriptor")) (hm : MtR X id r) (hf : VM (gm X) g r) (ht : T = "str" ∨ T = "list" ∨ T = "dict")
    (ho : FE X W o fo) (ha : FA X W (e :: es) fs) (hbase : attributeBase o name X.env (eval o X.env) = eval o X.env := by rfl)
    (hfew : ((backTo pos (starEach (e :: es) X.env)).all (fun x => !x.1) && (backToKw pos (keywordEach [] X.env)).all (fun x => x.1.isSome)
      && decide ((e :: es).length + ([] : List Keyword).length + (if ([] : List Keyword).isEmpty then 0 else 1) < 30)) = true := by rfl)
    (hline : (apos.endLine == pos.line) = true := by rfl) (hs : starEach (e :: es) X.env = (false, eval e X.env) :: starEach es X.env := by rfl) (hplain : (backTo pos (starEach es X.env)).any (·.1) = false := by rfl) :
    FE X W (.Call (.Attribute o name apos) (e :: es) [] pos) (eM T g fo fs) := by
  refine ⟨PE.weak (pe_bm pa slot hty hm ho.pe ha.pa hbase hfew hline hs hplain) fun σ H Q h => ?_⟩
  obtain ⟨ι, env, S, rep, er, q⟩ := h
  refine ⟨ι, env, S, rep, er, Post.imp (Post.bind q) fun v H1 q => ?_⟩
  obtain ⟨d, S1, ι1, e1, rep1, rv, q⟩ := q
  split at q
  · rename_i hT
    refine ⟨tyV_of rep1 rv hT ht, ι1, env, S1, rep1, er.ext e1, Post.imp (Post.bind q) fun vs H2 q2 => ?_⟩
    obtain ⟨ds, S2, ι2, e2, rep2, rvs, q2⟩ := q2
    exact hf _ ι2 H2 S2 d ds v vs Q rep2 (RV.ext e2 _ _ rv) rvs q2
  · exact q.elim
theorem fe_bm0 {T id : String} {name : Str} {r : V → List V → Hp → VK → Prop} {g : D → List D → Sto → R D} (pa : PlainAttrs T) (slot : Slot T name id) (hty : typeOf (.builtin id) = pure (.type "method_descriptor")) (hm : MtR X id r) (hf : VM (gm X) g r) (ht : T = "str" ∨ T = "list" ∨ T = "dict")
    (ho : FE X W o fo) (hbase : attributeBase o name X.env (eval o X.env) = eval o X.env := by rfl) (hline : (apos.endLine == pos.line) = true := by rfl) :
    FE X W (.Call (.Attribute o name apos) [] [] pos) (eM T g fo aNil) := by
  refine ⟨PE.weak (pe_bm0 pa slot hty hm ho.pe hbase hline) fun σ H Q h => ?_⟩
  obtain ⟨ι, env, S, rep, er, q⟩ := h
  refine ⟨ι, env, S, rep, er, Post.imp (Post.bind q) fun v H1 q => ?_⟩
  obtain ⟨d, S1, ι1, e1, rep1, rv, q⟩ := q
  split at q
  · rename_i hT
    exact ⟨tyV_of rep1 rv hT ht, hf _ ι1 H1 S1 d [] v [] Q rep1 rv rfl q⟩
  · exact q.elim
def vApp (o : D) (xs : List D) (S : Sto) : R D := match o, xs with
  | .ref n, [y] => match S[n]? with
    | some (.lst ds) => if ds.length < LINE then .ok .non (S.set n (.lst (ds ++ [y]))) else .stuck
    | _ => .stuck
  | _, _ => .stuck
theorem v_app {G : Gm} : VM G vApp rAppend := by
  intro W ι H S o ds v vs Q rep r rvs p
  unfold vApp at p
  split at p
  · split at p
    · rename_i es hes
      split at p
      · rename_i hl
        obtain ⟨a, h1, rfl⟩ := r
        obtain ⟨u, rfl, h2⟩ := args1 rvs
        obtain ⟨us, h3, h4⟩ := rep.cell _ _ a hes h1
        refine ⟨a, us, u, rfl, rfl, h3, by rw [← h4.length, ← line_eq]; exact hl, p .non _ ι (ext_set rep h1) (rep.set h1 ⟨us ++ [u], upd_same, ?_⟩) rfl⟩
        exact RVs.ext (ext_set rep h1) _ _ (RVs.append h4 (RVs.one h2))
      · exact p.elim
    · exact p.elim
  · exact p.elim
theorem fe_append {y : Expr} (ho : FE X W o fo) (ha : FA X W [y] fs) (hbase : attributeBase o "append" X.env (eval o X.env) = eval o X.env := by rfl)
    (hfew : ((backTo pos (starEach [y] X.env)).all (fun x => !x.1) && (backToKw pos (keywordEach [] X.env)).all (fun x => x.1.isSome)
      && decide ([y].length + ([] : List Keyword).length + (if ([] : List Keyword).isEmpty then 0 else 1) < 30)) = true := by rfl)
    (hline : (apos.endLine == pos.line) = true := by rfl) (hs : starEach [y] X.env = (false, eval y X.env) :: starEach [] X.env := by rfl) (hplain : (backTo pos (starEach [] X.env)).any (·.1) = false := by rfl) : FE X W (.Call (.Attribute o "append" apos) [y] [] pos) (eM "list" vApp fo fs) :=
  fe_bm PySem.F.plainAttrs_list PySem.F.slot_list_append PySem.F.type_list_append mt_append v_app (.inr (.inl rfl)) ho ha hbase hfew hline hs hplain
def vJoin (o : D) (xs : List D) (S : Sto) : R D := match o, xs with
  | .str a, [d] => match (lstOf d S).bind strsOf with
    | some ys => if (ys.map (·.length)).sum + ys.length * a.length ≤ LINE then .ok (.str (TL.joinL a ys)) S else .stuck
    | none => .stuck
  | _, _ => .stuck
def rJoin (K : PySem.W.Frag) : V → List V → Hp → VK → Prop := fun x xs H Q => ∃ a p, ∃ ys : List Str, x = .str a ∧ xs = [.ref p] ∧ (SqL K H p (ys.map V.str) ∨ SqT K H p (ys.map V.str)) ∧
    (ys.map (·.length)).sum + ys.length * a.length ≤ 16777216 ∧ Q (.str (Txt.join a ys)) H
theorem v_join {G : Gm} : VM G vJoin (rJoin G.K) := by
  intro W ι H S o ds v vs Q rep r rvs p
  unfold vJoin at p
  split at p
  · split at p
    · rename_i ys hys
      split at p
      · rename_i hl
        obtain ⟨u, rfl, h2⟩ := args1 rvs
        obtain ⟨es, h3, h4⟩ := Option.bind_eq_some_iff.mp hys
        obtain ⟨b, us, rfl, h5, h6⟩ := lst_of rep h2 h3
        have e := strs_vs h6 h4
        subst e
        refine ⟨_, b, ys.map fun x => (⟨x.toArray⟩ : Str), r, rfl, .inl h5, ?_, p _ H ι (Ext.refl _ _) rep ?_⟩
        · have e1 : ((ys.map fun x => (⟨x.toArray⟩ : Str)).map (·.length)) = ys.map (·.length) := by
            rw [List.map_map]
            exact List.map_congr_left fun x _ => by show x.toArray.size = x.length; simp
          rw [e1, List.length_map]
          refine Nat.le_trans (Nat.le_of_eq ?_) hl
          show _ + _ * Array.size _ = _
          simp
        · show V.str _ = V.str _
          congr 1
          apply TL.ext_tl
          rw [TL.join_eq, TL.tl_join]
          simp only [TL.tl, List.map_map]
          congr 1
          exact (List.map_id' ys).symm ▸ (List.map_congr_left fun x _ => by simp)
      · exact p.elim
    · exact p.elim
  · exact p.elim
theorem fe_join {y : Expr} (ho : FE X W o fo) (ha : FA X W [y] fs) (hbase : attributeBase o "join" X.env (eval o X.env) = eval o X.env := by rfl)
    (hfew : ((backTo pos (starEach [y] X.env)).all (fun x => !x.1) && (backToKw pos (keywordEach [] X.env)).all (fun x => x.1.isSome)
      && decide ([y].length + ([] : List Keyword).length + (if ([] : List Keyword).isEmpty then 0 else 1) < 30)) = true := by rfl)
    (hline : (apos.endLine == pos.line) = true := by rfl) (hs : starEach [y] X.env = (false, eval y X.env) :: starEach [] X.env := by rfl) (hplain : (backTo pos (starEach [] X.env)).any (·.1) = false := by rfl) : FE X W (.Call (.Attribute o "join" apos) [y] [] pos) (eM "str" vJoin fo fs) :=
  fe_bm PySem.F.plainAttrs_str PySem.F.slot_str_join PySem.F.type_str_join mt_join v_join (.inl rfl) ho ha hbase hfew hline hs hplain

/-! ### stars -/
def aStar (a : E) (r : As) : As := fun env S => (a env S).bind fun d S1 => match d with
  | .tup ds => (r env S1).bind fun xs S2 => .ok (ds ++ xs) S2
  | .frl ds => (r env S1).bind fun xs S2 => .ok (ds ++ xs) S2
  | .ref n => match S1[n]? with
    | some (.lst ds) => (r env S1).bind fun xs S2 => if noRef.noRefs S1.length ds = true then .ok (ds ++ xs) S2 else .stuck
    | _ => .stuck
  | _ => .stuck
theorem star_post {G : Gm} {Wp : WP} {ι ι1 : List Addr} {H H1 : Hp} {ds xs : List D} {vs us : List V} {S : Sto} {Q : List V → Hp → Prop} (e1 : Ext ι H ι1 H1) (rep : Rep G ι1 H1 S) (h : RVs G ι H ds vs) (h2 : RVs G ι1 H1 xs us) (q : Post G (RVs G) Wp ι1 H1 (.ok (ds ++ xs) S) Q) : Q (vs ++ us) H1 :=
  q _ H1 ι1 (Ext.refl _ _) rep (RVs.append (RVs.ext e1 _ _ h) h2)
theorem fa_star (he : FE X W e f) (hr : FA X W es fs) (hs : starEach (.Starred e sp :: es) X.env = (true, eval e X.env) :: starEach es X.env := by rfl) : FA X W (.Starred e sp :: es) (aStar f fs) := by
  refine ⟨PA.weak (StX.pa_star he.pe hr.pa hs) fun σ H Q h => ?_⟩
  obtain ⟨ι, env, S, rep, er, q⟩ := h
  refine ⟨ι, env, S, rep, er, Post.imp (Post.bind q) fun v H1 q => ?_⟩
  obtain ⟨d, S1, ι1, e1, rep1, rv, q⟩ := q
  split at q
  · obtain ⟨a, vs, rfl, h1, h2⟩ := rv
    refine ⟨a, vs, rfl, .inl h1, ι1, env, S1, rep1, er.ext e1, Post.imp (Post.bind q) fun us H2 q2 => ?_⟩
    obtain ⟨xs, S2, ι2, e2, rep2, rvs, q2⟩ := q2
    exact star_post e2 rep2 h2 rvs q2
  · obtain ⟨a, vs, rfl, h1, h2⟩ := rv
    refine ⟨a, vs, rfl, .inr h1.sql, ι1, env, S1, rep1, er.ext e1, Post.imp (Post.bind q) fun us H2 q2 => ?_⟩
    obtain ⟨xs, S2, ι2, e2, rep2, rvs, q2⟩ := q2
    exact star_post e2 rep2 h2 rvs q2
  · split at q
    · rename_i ds hds
      obtain ⟨a, h1, rfl⟩ := rv
      obtain ⟨vs, h2, h3⟩ := rep1.cell _ _ a hds h1
      refine ⟨a, vs, rfl, .inr (.of h2), ι1, env, S1, rep1, er.ext e1, Post.imp (Post.bind q) fun us H2 q2 => ?_⟩
      obtain ⟨xs, S2, ι2, e2, rep2, rvs, q2⟩ := q2
      split at q2
      · exact star_post e2 rep2 h3 rvs q2
      · exact q2.elim
    · exact q.elim
  · exact q.elim
end
end Fz

/-! Fz9: in, x[::-1], the law's own head. -/
namespace Fz
open PySem PySem.Spec PyProof.Rows L2

/-! ### in -/
def flatD : D → Bool
  | .non => true
  | .bl _ => true
  | .int _ => true
  | .str _ => true
  | _ => false
def eqF : D → D → Bool
  | .non, .non => true
  | .bl a, .bl b => a == b
  | .bl a, .int b => (if a then 1 else 0) == b
  | .int a, .bl b => a == (if b then 1 else 0)
  | .int a, .int b => a == b
  | .str a, .str b => a == b
  | _, _ => false
def itemsOf (d : D) (S : Sto) : Option (List D) := match d with
  | .tup ds => some ds
  | d => lstOf d S
def inG (f : Bool → Bool) (d e : D) (S : Sto) : R D := match d, e with
  | .str [c], .str z => .ok (.bl (f (decide (c ∈ z)))) S
  | d, e => match itemsOf e S with
    | some es => if flatD d = true ∧ es.all flatD = true then .ok (.bl (f (es.any fun y => eqF y d))) S else .stuck
    | none => .stuck
def vIn (d e : D) (S : Sto) : R D := inG id d e S
def vNotIn (d e : D) (S : Sto) : R D := inG not d e S
section
variable {X : Cx} {G : Gm} {ι : List Addr} {H : Hp} {S : Sto}
def flv : D → V
  | .non => .non
  | .bl b => .bl b
  | .int i => .int i
  | .str x => .str ⟨x.toArray⟩
  | _ => .non
theorem flv_of {d : D} {v : V} (r : RV G ι H d v) (h : flatD d = true) : v = flv d ∧ flatV v = true := by
  cases d with
  | non => have e : v = .non := r; subst e; exact ⟨rfl, rfl⟩
  | bl b => have e : v = .bl b := r; subst e; exact ⟨rfl, rfl⟩
  | int b => have e : v = .int b := r; subst e; exact ⟨rfl, rfl⟩
  | str b => have e : v = .str _ := r; subst e; exact ⟨rfl, rfl⟩
  | _ => cases h
theorem eqF_of : ∀ {d e : D}, flatD d = true → flatD e = true → eqV (flv d) (flv e) = eqF d e := fun {d e} h1 h2 => by
  cases d <;> cases e <;> first | rfl | (cases h1; done) | (cases h2; done) | skip
  rename_i x y
  show ((⟨x.toArray⟩ : Str) == ⟨y.toArray⟩) = (x == y)
  rw [Bool.eq_iff_iff]
  simp
theorem flat_all : ∀ {ds : List D} {vs : List V}, RVs G ι H ds vs → ds.all flatD = true → vs = ds.map flv ∧ vs.all flatV = true
  | [], vs, h, _ => by have e : vs = [] := h; subst e; exact ⟨rfl, rfl⟩
  | d :: ds, vs, h, f => by
    obtain ⟨v, vr, rfl, h1, h2⟩ := h
    rw [List.all_cons, Bool.and_eq_true] at f
    obtain ⟨e1, e2⟩ := flv_of h1 f.1
    obtain ⟨e3, e4⟩ := flat_all h2 f.2
    subst e1 e3
    exact ⟨rfl, by rw [List.all_cons, e2, e4]; rfl⟩
theorem any_flat {d : D} (hd : flatD d = true) : ∀ {ds : List D}, ds.all flatD = true → (ds.map flv).any (fun y => eqV y (flv d)) = ds.any fun y => eqF y d
  | [], _ => rfl
  | y :: ds, f => by
    rw [List.all_cons, Bool.and_eq_true] at f
    rw [List.map_cons, List.any_cons, List.any_cons, eqF_of f.1 hd, any_flat hd f.2]
theorem items_of {d : D} {v : V} {ds : List D} (rep : Rep G ι H S) (r : RV G ι H d v) (h : itemsOf d S = some ds) : ∃ a vs, v = .ref a ∧ (SqL G.K H a vs ∨ SqT G.K H a vs) ∧ RVs G ι H ds vs := by
  unfold itemsOf at h
  split at h
  · cases h
    obtain ⟨a, vs, rfl, h1, h2⟩ := r
    exact ⟨a, vs, rfl, .inr h1, h2⟩
  · obtain ⟨a, vs, h1, h2, h3⟩ := lst_of rep r h
    exact ⟨a, vs, h1, .inl h2, h3⟩
def rInA (K : PySem.W.Frag) : R2 := fun x y H Q => (∃ (c : Nat) (z : Str), x = .str ⟨#[c]⟩ ∧ y = .str z ∧ Q (.bl (decide (c ∈ z.cps.toList))) H) ∨ rIn K false x y H Q
def rNotInA (K : PySem.W.Frag) : R2 := fun x y H Q => (∃ (c : Nat) (z : Str), x = .str ⟨#[c]⟩ ∧ y = .str z ∧ Q (.bl (!decide (c ∈ z.cps.toList))) H) ∨ rIn K true x y H Q
theorem op_inA : OpR X (compareOp .In) (rInA X.K) := op_in_sign.or op_in_seq
theorem op_notInA : OpR X (compareOp .NotIn) (rNotInA X.K) := op_notIn_sign.or op_notIn_seq
theorem vb_in : VB G vIn (rInA G.K) := by
  intro ι H S d e v u rep r1 r2
  unfold vIn inG
  split
  · rename_i c z
    refine .inr ⟨_, rfl, fun Q q => .inl ⟨c, ⟨z.toArray⟩, r1, r2, ?_⟩⟩
    simpa using q
  · split
    · rename_i es hes
      split
      · rename_i hf
        obtain ⟨a, vs, rfl, h1, h2⟩ := items_of rep r2 hes
        obtain ⟨e1, e2⟩ := flv_of r1 hf.1
        obtain ⟨e3, e4⟩ := flat_all h2 hf.2
        refine .inr ⟨_, rfl, fun Q q => .inr ⟨a, vs, rfl, h1, e2, e4, ?_⟩⟩
        have e5 : inV v vs = es.any fun y => eqF y d := by
          rw [e1, e3]
          exact any_flat hf.1 hf.2
        rw [e5]
        exact q
      · exact .inl rfl
    · exact .inl rfl
theorem vb_notIn : VB G vNotIn (rNotInA G.K) := by
  intro ι H S d e v u rep r1 r2
  unfold vNotIn inG
  split
  · rename_i c z
    refine .inr ⟨_, rfl, fun Q q => .inl ⟨c, ⟨z.toArray⟩, r1, r2, ?_⟩⟩
    simpa using q
  · split
    · rename_i es hes
      split
      · rename_i hf
        obtain ⟨a, vs, rfl, h1, h2⟩ := items_of rep r2 hes
        obtain ⟨e1, e2⟩ := flv_of r1 hf.1
        obtain ⟨e3, e4⟩ := flat_all h2 hf.2
        refine .inr ⟨_, rfl, fun Q q => .inr ⟨a, vs, rfl, h1, e2, e4, ?_⟩⟩
        have e5 : inV v vs = es.any fun y => eqF y d := by
          rw [e1, e3]
          exact any_flat hf.1 hf.2
        rw [e5]
        exact q
      · exact .inl rfl
    · exact .inl rfl
end

/-! ### x[::-1] -/
def vRev (d : D) (S : Sto) : R D := match d with
  | .str x => if x.length ≤ LINE then .ok (.str x.reverse) S else .stuck
  | d => match lstOf d S with
    | some ds => .ok (.ref S.length) (S ++ [.lst ds.reverse])
    | none => .stuck
section
variable {X : Cx} {W : WS} {e : Expr} {te : TE} {f : E} {k : Nat} {p1 p2 p3 pos : Pos}
theorem PE.or {t t' : TE} (h : PE X e t) (h' : PE X e t') : PE X e (fun σ H Q => t σ H Q ∨ t' σ H Q) :=
  ⟨fun pins s σ H Q I q => by
    rcases q with q | q
    · exact h.run pins s σ H Q I q
    · exact h'.run pins s σ H Q I q⟩
def tRevS (te : TE) : TE := fun σ H Q => te σ H fun x H1 => ∃ z : Str, x = .str z ∧ z.length ≤ sizeLine ∧ Q (.str ⟨z.cps.toList.reverse.toArray⟩) H1
theorem pick_rev (z : Str) : ((Builtin.Str.strSliceIndices none none (-1) z.length).filterMap (z.cps[·]?)) = z.cps.toList.reverse := by
  show ((sliceRange ((z.cps.size : Int) - 1) (-1) (-1)).filterMap (z.cps[·]?)) = _
  rw [PySem.W.krv_sliceRange, PySem.W.krv_range, List.filterMap_reverse]
  congr 1
  have key : ∀ n, n ≤ z.cps.size → (List.range n).filterMap (z.cps[·]?) = z.cps.toList.take n := by
    intro n
    induction n with
    | zero => intro _; rfl
    | succ n ih =>
      intro hn
      rw [List.range_succ, List.filterMap_append, ih (by omega), List.take_add_one]
      congr 1
      simp [show n < z.cps.size by omega]
  rw [key _ (Nat.le_refl _)]
  exact List.take_of_length_le (by simp)
theorem pe_revS (he : PE X e te) : PE X (.Subscript e (.Slice none none (some (.UnaryOp .USub (.Constant (.int 1) k p1) p2)) p3) pos) (tRevS te) := by
  constructor
  intro pins s σ H Q I h
  apply Subscript_
  refine thn (he.run pins s σ H _ I h) fun v s1 hq => ?_
  obtain ⟨x, H1, I1, r1, z, ex, hz, q⟩ := hq
  subst ex
  obtain ⟨t, rfl⟩ := r1
  have step : PO X (some (.UnaryOp .USub (.Constant (.int 1) k p1) p2)) (tPart (tUn (rU fun i => .int (-i)) (tC (.int 1)))) := po_some (pe_un un_neg pe_int)
  apply wpAny_Slice
  refine thn (po_none.run pins s1 σ H1 (fun o H2 => o = none ∧ H2 = H1) I1 ⟨rfl, rfl⟩) fun vl s2 hq => ?_
  obtain ⟨l, H2, I2, pl, el, e2⟩ := hq
  subst el e2
  refine thn (po_none.run pins s2 σ H2 (fun o H3 => o = none ∧ H3 = H2) I2 ⟨rfl, rfl⟩) fun vu s3 hq => ?_
  obtain ⟨u, H3, I3, pu, eu, e3⟩ := hq
  subst eu e3
  refine thn (step.run pins s3 σ H3 (fun o H4 => o = some (-1) ∧ H4 = H3) I3 ⟨1, rfl, -1, rfl, rfl, rfl⟩) fun vs s4 hq => ?_
  obtain ⟨o, H4, I4, ps, eo, e4⟩ := hq
  subst eo e4
  have J : Inv X pins σ H4 { s4 with heap := s4.heap.push { cls := .type "slice", data := .fields #[vl, vu, vs] } } :=
    I4.kept (t' := s4.toks) fun b ob q => Heap.get?_push_of_some _ q
  obtain ⟨l0, rfl, el⟩ := IsPart.raw pl
  obtain ⟨u0, rfl, eu⟩ := IsPart.raw pu
  obtain ⟨k0, rfl, ek⟩ := IsPart.raw ps
  have hl0 : l0 = none := by cases l0 with
    | none => rfl
    | some x => cases el
  have hu0 : u0 = none := by cases u0 with
    | none => rfl
    | some x => cases eu
  obtain ⟨tk, rfl⟩ : ∃ tk, k0 = some (-1, tk) := by
    cases k0 with
    | none => cases ek
    | some x =>
      obtain ⟨a, b⟩ := x
      have : a = -1 := Option.some.inj ek
      subst this
      exact ⟨b, rfl⟩
  subst hl0 hu0
  refine tail_any (ops := [.str z t, .ref s4.heap.objs.size]) (typeIs_str _ _ _) F.slot_str_getitem.lookup ?_ (by with_unfolding_all rfl)
  refine wpAny_getItem_str_slice (l := none) (u := none) (st := some (-1, tk)) ⟨_, Heap.get?_push_size _ rfl, rfl, rfl⟩ rfl ?_
  show Made.post (if ((-1 : Int) == 1 && (Builtin.Str.strSliceIndices none none (-1) z.length).length == z.length) = true then Made.val (.str z t)
    else Made.str ⟨((Builtin.Str.strSliceIndices none none (-1) z.length).filterMap (z.cps[·]?)).toArray⟩) (EP X pins σ Q) _
  rw [if_neg (by simp), pick_rev]
  refine ⟨?_, .str _, H4, J.tok _, ⟨_, rfl⟩, q⟩
  show z.cps.toList.reverse.toArray.size ≤ sizeLine
  have hz' : z.cps.size ≤ sizeLine := hz
  simpa using hz'
theorem fe_rev (he : FE X W e f) : FE X W (.Subscript e (.Slice none none (some (.UnaryOp .USub (.Constant (.int 1) k p1) p2)) p3) pos) (e1 vRev f) := by
  refine ⟨PE.weak (Fz.PE.or (pe_revL he.pe) (pe_revS he.pe)) fun σ H Q h => ?_⟩
  obtain ⟨ι, env, S, rep, er, p⟩ := h
  have p0 : Post (gm X) (RV (gm X)) (fun c d H' => W c d σ H') ι H ((f env S).bind vRev) Q := p
  cases hf : f env S with
  | stuck => rw [hf] at p0; exact p0.elim
  | exc C fs S' => exact .inl ⟨ι, env, S, rep, er, by rw [hf] at p0 ⊢; exact p0⟩
  | ok d S' =>
    rw [hf] at p0
    by_cases hs : ∃ x, d = .str x
    · obtain ⟨x, rfl⟩ := hs
      refine .inr ⟨ι, env, S, rep, er, ?_⟩
      rw [hf]
      intro v H1 ι1 e1 r1 rv
      have p1 : Post (gm X) (RV (gm X)) (fun c d H' => W c d σ H') ι H (if x.length ≤ LINE then .ok (.str x.reverse) S' else .stuck) Q := p0
      split at p1
      · rename_i hl
        refine ⟨_, rv, by rw [← line_eq]; exact (show x.toArray.size ≤ LINE by simpa using hl), ?_⟩
        exact p1 _ H1 ι1 e1 r1 (by show V.str _ = V.str _; simp)
      · exact p1.elim
    · refine .inl ⟨ι, env, S, rep, er, ?_⟩
      rw [hf]
      intro v H1 ι1 e1 r1 rv
      have e0 : vRev d S' = (match lstOf d S' with
        | some ds => .ok (.ref S'.length) (S' ++ [.lst ds.reverse])
        | none => .stuck) := by
        unfold vRev
        split
        · exact absurd ⟨_, rfl⟩ hs
        · rfl
      have p1 : Post (gm X) (RV (gm X)) (fun c d H' => W c d σ H') ι H (vRev d S') Q := p0
      rw [e0] at p1
      split at p1
      · rename_i ds hds
        obtain ⟨a, vs, rfl, h1, h2⟩ := lst_of r1 rv hds
        refine ⟨a, vs, rfl, h1, fun q hq => post_lst r1 h2.reverse hq ?_⟩
        exact fun v H' ι' e r rv => p1 v H' ι' (e1.trans e) r rv
      · exact p1.elim
end

/-! ### the law's own head -/
section
variable {P : Program} {w : World} {K : PySem.W.Frag} {mg mb : Str → Option Value} {k : Nat} {fa a : Addr} {fd : FuncData} {x : Str} {s₁ : Shared} {vs : List Value} {ns : List Int} {F : Fn}
/-- from a def's contract to its promise, where nothing may be raised and the answer is True: only the script is there -/
theorem law_callG (KX : K.In s₁.heap) (hns : s₁.heap.Ns mainGlobals mg) (hb : s₁.heap.Ns builtinsNs mb) (hbb : ∀ x : Str, x ≠ "__name__" → mb x = bootBuiltins x) (hlim : s₁.heap.NoLimit) (hg : s₁.gens = #[])
    (ha : s₁.heap.get? a = some { cls := .type "list", data := .seq vs.toArray }) (hi : IntsAre vs ns) (hl : ns.length ≤ sizeLine) (hr : Room k callerA)
    (hF : ∀ base : Heap, K.In base → base.Ns mainGlobals mg → FnG P w K mg base k fa fd [x] F) (hbind : ∀ (s : Shared) (u : Value), BindsTo s fd ⟨[u], []⟩ [(x, u)])
    (hnl : ∀ (nm : Str) (P : Addr), ¬ TabAt ⟨K, mg⟩ nm P) (hok : F [.frl (ns.map D.int)] [] = .ok (.bl true) []) :
    codeAny (model P w) callerA (.call (.ref fa) ⟨[.ref a], []⟩) (fun r s' => r = .ok (.ret (.bool true)) ∧ OldK s₁.heap s'.heap ∧ s'.os = s₁.os ∧ AllBare s'.gens) s₁ := by
  have rel := vals_ints hi
  have vlen := hi.length
  -- H: nothing, or the script alone
  have main : ∀ H : Hp, (∀ b, H b = none ∨ (b = a ∧ ∃ o, H b = some (.frz o (.lst (ns.map V.int))))) → SqF K H a (ns.map V.int) → HOk P w H s₁.heap → (H a ≠ none → K.lookup a = none) →
      codeAny (model P w) callerA (.call (.ref fa) ⟨[.ref a], []⟩) (fun r s' => r = .ok (.ret (.bool true)) ∧ OldK s₁.heap s'.heap ∧ s'.os = s₁.os ∧ AllBare s'.gens) s₁ := by
    intro H only sq hok' noK
    have only' : ∀ b, H b ≠ none → b = a := fun b z => by
      rcases only b with y | ⟨y, _⟩
      · exact absurd y z
      · exact y
    have low : ∀ {b : Addr} {o : Obj}, s₁.heap.get? b = some o → H b = none → (hidT s₁.heap H).get? b = some o := fun e n => hidT_get e n
    have dictFree : ∀ {b : Addr} {o : Obj} {es : Array DictEntry} {ep : Nat}, s₁.heap.get? b = some o → o.data = .dict es ep → H b = none := by
      intro b o es ep e d
      by_cases z : H b = none
      · exact z
      · have := only' b z
        subst this
        rw [ha] at e
        cases e
        exact Data.noConfusion d
    have nsLow : ∀ {b : Addr} {m : Str → Option Value}, s₁.heap.Ns b m → (hidT s₁.heap H).Ns b m := by
      rintro b m ⟨o, es, ep, e, d, r⟩
      exact ⟨o, es, ep, low e (dictFree e d), d, r⟩
    have kLow : K.In (hidT s₁.heap H) := by
      intro b o e
      refine low (KX b o e) ?_
      by_cases z : H b = none
      · exact z
      · have := only' b z
        subst this
        rw [noK z] at e
        cases e
    have md : Mod K mg (hidT s₁.heap H) := by
      obtain ⟨mc, h1, h2⟩ := hlim
      exact ⟨kLow, nsLow hns, ⟨mb, nsLow hb, hbb⟩, ⟨mc, nsLow h1, h2⟩⟩
    have env0 : Env0 P w K mg (hidT s₁.heap H) callerA [] s₁ H :=
      ⟨rfl, md, fun b o e => of_hidT e, Nat.le_of_eq (hidT_size _ _), trivial, (fun b hb => absurd (show b ∈ ([] : List Addr) from hb) (by simp)), hok', .of_eq hg⟩
    have rep : Rep ⟨K, mg⟩ [] H [] := ⟨rfl, fun i j a h => by simp at h, fun i c a h => by simp at h, fun nm P hP => absurd hP (hnl nm P), fun nm nm' P hP => absurd hP (hnl nm P)⟩
    have rv : RVs ⟨K, mg⟩ [] H [.frl (ns.map D.int)] [.ref a] := RVs.one ⟨a, ns.map V.int, rfl, sq, RVs.ints ns⟩
    have run := (hF _ kLow (nsLow hns)).run callerA [] s₁ H ⟨[.ref a], []⟩ [.ref a] [.ref a] (fun v _ => v = .bl true) (fun _ _ _ => False) [] [.frl (ns.map D.int)] [] rfl hr env0 (hbind s₁ (.ref a)) (.cons rfl .nil) rep rv rfl
      (by rw [hok]; exact fun v H' ι' _ _ rv => rv)
    refine codeAny_mono run fun r s' h => ?_
    cases r with
    | error e =>
      obtain ⟨_, _, _, _, _, _, _, _, _, _, _, _, z⟩ := h
      exact z.elim
    | ok fl =>
      cases fl with
      | ret u =>
        obtain ⟨v, H', os, bare, un, hok2, r', q⟩ := h
        have q' : v = .bl true := q
        subst q'
        obtain rfl : u = Value.bool true := r'
        refine ⟨rfl, OldK.of_keep ?_, os, bare⟩
        intro b o e
        rcases only b with z | ⟨_, ob, z⟩
        · exact un.keep b o e z (by intro y; cases y) (by simp)
        · have z2 := un.frzs b ob _ z
          have e1 := (hok' b _ z).1
          have e2 := (hok2 b _ z2).1
          rw [e] at e1
          cases e1
          exact e2
      | next => exact False.elim h
      | brk => exact False.elim h
      | cont => exact False.elim h
  cases hk : K.lookup a with
  | some o =>
    have e := KX a o hk
    rw [ha] at e
    cases e
    refine main (fun _ => none) (fun _ => .inl rfl) (.inr ⟨_, vs.toArray, _, hk, rfl, rfl, rfl, ?_, ?_⟩) (fun b u z => by cases z) fun z => absurd rfl z
    · rw [List.size_toArray, vlen]
      exact hl
    · simpa using rel
  | none =>
    refine main (fun b => if b = a then some (.frz { cls := .type "list", data := .seq vs.toArray } (.lst (ns.map V.int))) else none) (fun b => ?_) (.inl ⟨_, if_pos rfl⟩) (fun b u z => ?_) fun _ => hk
    · by_cases hb : b = a
      · exact .inr ⟨hb, _, if_pos hb⟩
      · exact .inl (if_neg hb)
    · by_cases hb : b = a
      · subst hb
        have z' := (if_pos rfl).symm.trans z
        cases z'
        exact ⟨ha, by rw [List.length_map]; exact hl, vs, _, rel, ha⟩
      · have z' := (if_neg hb).symm.trans z
        cases z'
/-- no def of the written part hands on a lambda -/
def noLamO (o : Obj) : Bool := match o.data with
  | .func fd => (match fd.body with
    | .stmts bd => (lamOf bd).isNone
    | _ => true)
  | _ => true
def noLamK (K : PySem.W.Frag) : Bool := K.all fun q => noLamO q.2
theorem mem_of_look {b : Addr} {o : Obj} : ∀ {l : List (Addr × Obj)}, l.lookup b = some o → (b, o) ∈ l
  | [], e => by cases e
  | (d, u) :: r, e => by
    rw [List.lookup_cons] at e
    split at e
    · rename_i q
      rw [eq_of_beq q, Option.some.inj e]
      exact List.mem_cons_self
    · exact List.mem_cons_of_mem _ (mem_of_look e)
theorem noLam_tab {K : PySem.W.Frag} {mg : Str → Option Value} (h : noLamK K = true) (nm : Str) (P : Addr) : ¬ TabAt ⟨K, mg⟩ nm P := by
  rintro ⟨f, c, oc, od, osl, fd, bd, _, m2, _, _, m4, m5, _⟩
  have z := List.all_eq_true.mp h _ (mem_of_look m2)
  simp only [noLamO, m4] at z
  cases e : lamOf bd with
  | none => rw [e] at m5; cases m5
  | some x => rw [e] at z; cases z
/-- the goal that k_head leaves -/
theorem walk_G {l : PySem.W.OpenLaw} {n k : Nat} {q : Program} {loose : List Str} {XP : (Str → Option Value) → Heap → Prop} {YP : World → Heap → Prop} {d : DefRec} {K : Params → PySem.W.Frag} {x : Str} {F : Fn}
    (hn : l.most = some n) (hn2 : n ≤ sizeLine) (hdf : d.params.defaults = []) (hr : Room k callerA)
    (hY : ∀ (w : World) (h : Heap), YP w h → (K w.params).In h)
    (hF : ∀ (w : World) (mg : Str → Option Value) (fa : Addr) (h : Heap), (K w.params).In h → h.Ns mainGlobals mg → mg d.name = some (.ref fa) →
      ∃ fd : FuncData, (∀ (s : Shared) (u : Value), BindsTo s fd ⟨[u], []⟩ [(x, u)]) ∧
        ∀ base : Heap, (K w.params).In base → base.Ns mainGlobals mg → FnG l.prog w (K w.params) mg base k fa fd [x] F)
    (hnl : ∀ w : World, noLamK (K w.params) = true) (hok : ∀ ns : List Int, ns.length ≤ n → F [.frl (ns.map D.int)] [] = .ok (.bl true) []) :
    PySem.W.WalkO q loose XP YP l.row.toRowW d [] (fun f vs => PySem.call f vs) := by
  apply Att.attach_call hn hdf
  intro w s₀ s₁ mg mb fa o pm cd doc a vs ns G Y ho hd hcd hmg hobj hints hlen hg
  obtain ⟨fd, hb, hF'⟩ := hF w mg fa _ (hY w _ Y) G.T.g hmg
  exact law_callG (hY w _ Y) G.T.g G.T.b G.T.builtins G.T.nolimit hg hobj hints (Nat.le_trans hlen hn2) hr hF' hb (noLam_tab (hnl w)) (hok ns hlen)
end
end Fz

/-! Fz10: a def of the module by its name, and calls of it. -/
namespace Fz
open PySem PySem.Spec PyProof.Rows L2

/-- a def as it stands; dV its defaults -/
structure FunA (K : PySem.W.Frag) (nm : Str) (st : Stmt) (dV : Value) (f : Addr) (fd : FuncData) : Prop where
  ex : ∃ (oc : Value) (od : Option Addr) (kV doc pm : Value) (an : Option Addr) (cdv ct : Value) (osl : Array (Option Value)),
    fd = PySem.W.fnOf nm nm (defArgs st) (defBody st) (defScope st) dV kV doc pm an cdv ct ∧ K.lookup f = some ⟨oc, od, .func fd, osl⟩ ∧ PySem.W.codeIn K cdv nm = true
  kp : PySem.W.keepIn K (.ref f) = true
/-- its defaults' values -/
def DfD (K : PySem.W.Frag) (mg : Str → Option Value) (dV : Value) (dds : List D) : Prop := (dds = [] ∧ dV = .none) ∨ dds ≠ [] ∧
  ∃ (T : Addr) (o : Obj) (its : List Value) (n : Nat) (dvs : List V), dV = .ref T ∧ K.lookup T = some o ∧ o.data = .seq its.toArray n ∧ Vals dvs its ∧ ∀ ι H, RVs ⟨K, mg⟩ ι H dds dvs
/-- the name x holds the def nm of the text -/
structure Has (P : Program) (w : World) (K : PySem.W.Frag) (mg : Str → Option Value) (base : Heap) (k : Nat) (x nm : Str) (st : Stmt) (dds : List D) (ps : List Str) (F : Fn) : Prop where
  ex : ∃ f fd dV, FunA K nm st dV f fd ∧ DfD K mg dV dds ∧ mg x = some (.ref f) ∧ FnG P w K mg base k f fd ps F
/-- where the def stands -/
def At (K : PySem.W.Frag) (mg : Str → Option Value) (x nm : Str) (st : Stmt) (dds : List D) : Prop := ∃ f fd dV, FunA K nm st dV f fd ∧ DfD K mg dV dds ∧ mg x = some (.ref f)
abbrev docD (nm : Str) (st : Stmt) (dV kV doc pm : Value) (an : Option Addr) (cdv ct : Value) : FuncData := PySem.W.fnOf nm nm (defArgs st) (defBody st) (defScope st) dV kV doc pm an cdv ct
section
variable {P : Program} {w : World} {K : PySem.W.Frag} {mg : Str → Option Value} {base : Heap}
theorem has_of {k : Nat} {x nm : Str} {st : Stmt} {dds : List D} {N ps : List Str} {fb : Sm} (a : At K mg x nm st dds) (Sc : FnScope N ps (defScope st))
    (hbody : ∀ (f : Addr) (cdv : Value) (A : Around) (outer : List Env) (s : Shared) (H : Hp) (E : XK), A.guards = some [] → Room k (A.deeper (envOfC nm (defScope st) s.heap.objs.size f cdv)) →
      FSs (cxOf (L2.CX P w) P w K mg base N nm (defScope st) f cdv A outer s H E) (fun c d _ H' => E c d H') (defBody st) fb) : Has P w K mg base (k + 1) x nm st dds ps (defF ps.length N.length fb) := by
  obtain ⟨f, fd, dV, F, dd, hm⟩ := a
  refine ⟨f, fd, dV, F, dd, hm, ?_⟩
  obtain ⟨oc, od, kV, doc, pm, an, cdv, ct, osl, rfl, lk, hcd⟩ := F.ex
  exact fng_of lk hcd Sc fun A outer s H E gd hr => hbody f cdv A outer s H E gd hr
theorem at_of {x nm : Str} {st : Stmt} {f : Addr} {oc : Value} {od an : Option Addr} {osl : Array (Option Value)} {kV doc pm cdv ct : Value} {h : Heap} (X : K.In h) (G : h.Ns mainGlobals mg) (a : PySem.W.nsIn K mainGlobals x = some (some (.ref f)))
    (l : K.lookup f = some ⟨oc, od, .func (PySem.W.fnOf nm nm (defArgs st) (defBody st) (defScope st) .none kV doc pm an cdv ct), osl⟩)
    (c : PySem.W.codeIn K cdv nm = true) (k : PySem.W.keepIn K (.ref f) = true) : At K mg x nm st [] := ⟨f, _, .none, ⟨⟨oc, od, kV, doc, pm, an, cdv, ct, osl, rfl, l, c⟩, k⟩, .inl ⟨rfl, rfl⟩, PySem.W.mg_of X G a⟩
end
section
variable {X : Cx} {W : WS} {j n : Nat} {st : Stmt} {ps ks : List Str} {F : Fn} {x nm : Str} {p pos : Pos} {e : Expr} {es : List Expr} {fs fk : As} {pm : List Nat} {dds : List D}
theorem bindK_of {K : PySem.W.Frag} {f : Addr} {fd : FuncData} (hF : FunA K nm st .none f fd) (hb : ∀ (kV doc pV : Value) (an : Option Addr) (cdv ct : Value) (us ws : List Value), us.length = n → ws.length = ks.length → bindArgs (docD nm st .none kV doc pV an cdv ct) ⟨us, ks.zip ws⟩ = pure (ps.zip (permL pm (us ++ ws)))) : BindK K fd ps n ks pm [] := by
  obtain ⟨oc, od, kV, doc, pV, an, cdv, ct, osl, rfl, lk, hcd⟩ := hF.ex
  intro s us ws _ h1 h2
  rw [List.append_nil]
  exact .of_eq (hb kV doc pV an cdv ct us ws h1 h2)
/-- where defaults are taken -/
theorem bindD_of {K : PySem.W.Frag} {f : Addr} {fd : FuncData} {T : Addr} {o : Obj} {its : List Value} {m : Nat} (hF : FunA K nm st (.ref T) f fd) (lT : K.lookup T = some o) (oT : o.data = .seq its.toArray m)
    (hb : ∀ (T : Addr) (kV doc pV : Value) (an : Option Addr) (cdv ct : Value) (us ws : List Value), us.length = n → ws.length = ks.length → ∃ k, bindArgs (docD nm st (.ref T) kV doc pV an cdv ct) ⟨us, ks.zip ws⟩ = seqItems? (.ref T) >>= k ∧ k (some its.toArray) = pure (ps.zip (permL pm (us ++ ws ++ its)))) : BindK K fd ps n ks pm its := by
  obtain ⟨oc, od, kV, doc, pV, an, cdv, ct, osl, rfl, lk, hcd⟩ := hF.ex
  intro s us ws hK h1 h2
  obtain ⟨k, e1, e2⟩ := hb T kV doc pV an cdv ct us ws h1 h2
  refine BindsTo.of_looks fun M => ?_
  rw [e1]
  exact looks_items hK lT oT (.of_pure e2)
theorem fe_fn (h : Has X.prog X.w X.K X.mg X.base j x nm st [] ps F) (gd : X.A.guards = some []) (hr : Room j X.A) (tk : Takes X W)
    (hb : ∀ (kV doc pV : Value) (an : Option Addr) (cdv ct : Value) (us ws : List Value), us.length = n → ws.length = ([] : List Str).length → bindArgs (docD nm st .none kV doc pV an cdv ct) ⟨us, ([] : List Str).zip ws⟩ = pure (ps.zip (permL pm (us ++ ws))))
    (ha : FA X W (e :: es) fs) (hg : Gl X x := by rfl) (hdb : (x == ("__debug__" : Str)) = false := by decide) (he : starEach (e :: es) X.env = (false, eval e X.env) :: starEach es X.env := by rfl) (hpl : (backTo pos (starEach es X.env)).any (·.1) = false := by rfl) :
    FE X W (.Call (.Name x p) (e :: es) [] pos) (eN (cF n 0 pm [] ps.length F) fs) := by
  obtain ⟨f, fd, dV, hF, hd, hm, hG⟩ := h.ex
  obtain ⟨_, rfl⟩ := hd.resolve_right fun z => z.1 rfl
  exact fe_call hG gd hr tk hm hF.kp (bindK_of hF hb) .nil (fun _ _ => rfl) ha hg hdb he hpl
/-- some parameters by their defaults -/
theorem fe_fnD (h : Has X.prog X.w X.K X.mg X.base j x nm st dds ps F) (gd : X.A.guards = some []) (hr : Room j X.A) (tk : Takes X W) (hne : dds ≠ [])
    (hb : ∀ (its : List Value), its.length = dds.length → ∀ (T : Addr) (kV doc pV : Value) (an : Option Addr) (cdv ct : Value) (us ws : List Value), us.length = n → ws.length = ([] : List Str).length → ∃ k, bindArgs (docD nm st (.ref T) kV doc pV an cdv ct) ⟨us, ([] : List Str).zip ws⟩ = seqItems? (.ref T) >>= k ∧ k (some its.toArray) = pure (ps.zip (permL pm (us ++ ws ++ its))))
    (ha : FA X W (e :: es) fs) (hg : Gl X x := by rfl) (hdb : (x == ("__debug__" : Str)) = false := by decide) (he : starEach (e :: es) X.env = (false, eval e X.env) :: starEach es X.env := by rfl) (hpl : (backTo pos (starEach es X.env)).any (·.1) = false := by rfl) :
    FE X W (.Call (.Name x p) (e :: es) [] pos) (eN (cF n 0 pm dds ps.length F) fs) := by
  obtain ⟨f, fd, dV, hF, hd, hm, hG⟩ := h.ex
  rcases hd with ⟨e1, _⟩ | ⟨_, T, o, its, m, dvs, rfl, lT, oT, rT, hr2⟩
  · exact absurd e1 hne
  · have hl : its.length = dds.length := by rw [← rT.length]; exact ((hr2 [] (fun _ => none)).length).symm
    exact fe_call hG gd hr tk hm hF.kp (bindD_of hF lT oT (hb its hl)) rT hr2 ha hg hdb he hpl
theorem fe_fn0 (h : Has X.prog X.w X.K X.mg X.base j x nm st [] ps F) (gd : X.A.guards = some []) (hr : Room j X.A) (tk : Takes X W)
    (hb : ∀ (kV doc pV : Value) (an : Option Addr) (cdv ct : Value) (us ws : List Value), us.length = 0 → ws.length = ([] : List Str).length → bindArgs (docD nm st .none kV doc pV an cdv ct) ⟨us, ([] : List Str).zip ws⟩ = pure (ps.zip (permL pm (us ++ ws))))
    (hg : Gl X x := by rfl) (hdb : (x == ("__debug__" : Str)) = false := by decide) : FE X W (.Call (.Name x p) [] [] pos) (eN (cF 0 0 pm [] ps.length F) aNil) := by
  obtain ⟨f, fd, dV, hF, hd, hm, hG⟩ := h.ex
  obtain ⟨_, rfl⟩ := hd.resolve_right fun z => z.1 rfl
  exact fe_call0 hG gd hr tk hm hF.kp (bindK_of hF hb) .nil (fun _ _ => rfl) hg hdb
theorem fe_fnK {kws : List Keyword} (h : Has X.prog X.w X.K X.mg X.base j x nm st [] ps F) (gd : X.A.guards = some []) (hr : Room j X.A) (tk : Takes X W)
    (hb : ∀ (kV doc pV : Value) (an : Option Addr) (cdv ct : Value) (us ws : List Value), us.length = n → ws.length = ks.length → bindArgs (docD nm st .none kV doc pV an cdv ct) ⟨us, ks.zip ws⟩ = pure (ps.zip (permL pm (us ++ ws))))
    (ha : FA X W (e :: es) fs) (hkw : FK X W kws fk) (hall : (backToKw pos (keywordEach kws X.env)).all (·.1.isSome) = true := by rfl) (hks : (backToKw pos (keywordEach kws X.env)).filterMap (·.1) = ks := by rfl)
    (hlen : (e :: es).length = n := by rfl) (hlk : kws.length = ks.length := by rfl) (hg : Gl X x := by rfl) (hdb : (x == ("__debug__" : Str)) = false := by decide) (he : starEach (e :: es) X.env = (false, eval e X.env) :: starEach es X.env := by rfl)
    (hpl : ((backTo pos (starEach (e :: es) X.env)).any (·.1) || (backToKw pos (keywordEach kws X.env)).any (·.1.isNone)) = false := by rfl) :
    FE X W (.Call (.Name x p) (e :: es) kws pos) (eN (cF n ks.length pm [] ps.length F) (aApp n ks.length fs fk)) := by
  obtain ⟨f, fd, dV, hF, hd, hm, hG⟩ := h.ex
  obtain ⟨_, rfl⟩ := hd.resolve_right fun z => z.1 rfl
  exact fe_callK hG gd hr tk hm hF.kp (bindK_of hF hb) .nil (fun _ _ => rfl) ha hkw hall hks hlen hlk hg hdb he hpl
theorem fe_fnK0 {kws : List Keyword} (h : Has X.prog X.w X.K X.mg X.base j x nm st [] ps F) (gd : X.A.guards = some []) (hr : Room j X.A) (tk : Takes X W)
    (hb : ∀ (kV doc pV : Value) (an : Option Addr) (cdv ct : Value) (us ws : List Value), us.length = 0 → ws.length = ks.length → bindArgs (docD nm st .none kV doc pV an cdv ct) ⟨us, ks.zip ws⟩ = pure (ps.zip (permL pm (us ++ ws))))
    (hkw : FK X W kws fk) (hall : (backToKw pos (keywordEach kws X.env)).all (·.1.isSome) = true := by rfl) (hks : (backToKw pos (keywordEach kws X.env)).filterMap (·.1) = ks := by rfl)
    (hlk : kws.length = ks.length := by rfl) (hg : Gl X x := by rfl) (hdb : (x == ("__debug__" : Str)) = false := by decide)
    (hpl : ((backTo pos (starEach [] X.env)).any (·.1) || (backToKw pos (keywordEach kws X.env)).any (·.1.isNone)) = false := by rfl) :
    FE X W (.Call (.Name x p) [] kws pos) (eN (cF 0 ks.length pm [] ps.length F) fk) := by
  obtain ⟨f, fd, dV, hF, hd, hm, hG⟩ := h.ex
  obtain ⟨_, rfl⟩ := hd.resolve_right fun z => z.1 rfl
  exact fe_callK0 hG gd hr tk hm hF.kp (bindK_of hF hb) .nil (fun _ _ => rfl) hkw hall hks hlk hg hdb hpl
/-- the module's constants -/
theorem fe_kint {i : Int} (h : ∃ t, X.mg x = some (.int i t)) (hg : Gl X x := by rfl) (hd : (x == ("__debug__" : Str)) = false := by decide) : FE X W (.Name x pos) (eC (.int i)) := by
  obtain ⟨t, h⟩ := h
  exact fe_gint h hg hd
theorem fe_kstr {z : List Nat} (h : ∃ t, X.mg x = some (.str ⟨z.toArray⟩ t)) (hg : Gl X x := by rfl) (hd : (x == ("__debug__" : Str)) = false := by decide) : FE X W (.Name x pos) (eC (.str z)) := by
  obtain ⟨t, h⟩ := h
  exact fe_gstr h rfl hg hd
/-- a value of the written part -/
def KD (G : Gm) (x : Str) (d : D) : Prop := ∃ u v, G.mg x = some u ∧ RelV v u ∧ ∀ ι H, RV G ι H d v
theorem fe_kd {d : D} (h : KD (gm X) x d) (hg : Gl X x := by rfl) (hd : (x == ("__debug__" : Str)) = false := by decide) : FE X W (.Name x pos) (eC d) := by
  obtain ⟨u, v, hm, r, hr⟩ := h
  exact constE (pe_glob hg hm r hd) hr
end
/-- a value as it stands in the written part -/
def KV1 (G : Gm) (d : D) (u : Value) : Prop := ∃ v, RelV v u ∧ ∀ ι H, RV G ι H d v
theorem kv_int {G : Gm} {i : Int} {t : Tok} : KV1 G (.int i) (.int i t) := ⟨.int i, ⟨t, rfl⟩, fun _ _ => rfl⟩
theorem kv_bl {G : Gm} {b : Bool} : KV1 G (.bl b) (.bool b) := ⟨.bl b, rfl, fun _ _ => rfl⟩
theorem kv_non {G : Gm} : KV1 G .non .none := ⟨.non, rfl, fun _ _ => rfl⟩
theorem kv_str {G : Gm} {z : Str} {x : List Nat} {t : Tok} (h : z = ⟨x.toArray⟩) : KV1 G (.str x) (.str z t) := ⟨.str z, ⟨t, rfl⟩, fun _ _ => by rw [h]; exact rfl⟩
inductive KVs (G : Gm) : List D → List Value → Prop
  | nil : KVs G [] []
  | cons {d : D} {ds : List D} {u : Value} {us : List Value} : KV1 G d u → KVs G ds us → KVs G (d :: ds) (u :: us)
theorem KVs.vals {G : Gm} : ∀ {ds : List D} {us : List Value}, KVs G ds us → ∃ vs, Vals vs us ∧ ∀ ι H, RVs G ι H ds vs
  | _, _, .nil => ⟨[], .nil, fun _ _ => rfl⟩
  | _, _, .cons h t => by
    obtain ⟨v, h1, h2⟩ := h
    obtain ⟨vs, h3, h4⟩ := KVs.vals t
    exact ⟨v :: vs, .cons h1 h3, fun ι H => ⟨v, vs, rfl, h2 ι H, h4 ι H⟩⟩
theorem kv_tup {G : Gm} {a : Addr} {od : Option Addr} {us : List Value} {ds : List D} {n : Nat} {sl : Array (Option Value)} (l : G.K.lookup a = some ⟨.type "tuple", od, .seq us.toArray n, sl⟩) (h : KVs G ds us) (hz : us.length ≤ LINE := by exact Nat.le_of_ble_eq_true rfl) : KV1 G (.tup ds) (.ref a) := by
  obtain ⟨vs, h1, h2⟩ := h.vals
  exact ⟨.ref a, rfl, fun ι H => ⟨a, vs, rfl, .inr ⟨_, us.toArray, n, l, rfl, rfl, by rw [← line_eq]; simpa using hz, by simpa using h1⟩, h2 ι H⟩⟩
theorem kd_of {K : PySem.W.Frag} {mg : Str → Option Value} {h : Heap} {x : Str} {u : Value} {d : D} (X : K.In h) (N : h.Ns mainGlobals mg) (a : PySem.W.nsIn K mainGlobals x = some (some u)) (k : KV1 ⟨K, mg⟩ d u) : KD ⟨K, mg⟩ x d := by
  obtain ⟨v, h1, h2⟩ := k
  exact ⟨u, v, PySem.W.mg_of X N a, h1, h2⟩
/-- where a def with defaults stands -/
theorem at_ofD {K : PySem.W.Frag} {mg : Str → Option Value} {x nm : Str} {st : Stmt} {f T : Addr} {oc : Value} {od an oT : Option Addr} {osl sT : Array (Option Value)} {kV doc pm cdv ct : Value} {h : Heap} {us : List Value} {dds : List D} {n : Nat} (X : K.In h) (G : h.Ns mainGlobals mg) (a : PySem.W.nsIn K mainGlobals x = some (some (.ref f)))
    (l : K.lookup f = some ⟨oc, od, .func (PySem.W.fnOf nm nm (defArgs st) (defBody st) (defScope st) (.ref T) kV doc pm an cdv ct), osl⟩) (lT : K.lookup T = some ⟨.type "tuple", oT, .seq us.toArray n, sT⟩) (hv : KVs ⟨K, mg⟩ dds us)
    (c : PySem.W.codeIn K cdv nm = true) (k : PySem.W.keepIn K (.ref f) = true) (hne : dds ≠ [] := by simp) : At K mg x nm st dds := by
  obtain ⟨vs, h1, h2⟩ := hv.vals
  exact ⟨f, _, .ref T, ⟨⟨oc, od, kV, doc, pm, an, cdv, ct, osl, rfl, l, c⟩, k⟩, .inr ⟨hne, T, _, us, n, vs, rfl, lT, rfl, h1, h2⟩, PySem.W.mg_of X G a⟩
theorem lt_line {n m k : Nat} (h : n + 64 < k) (hm : m ≤ 64) : n + m < k := by omega
end Fz

/-! Fz11: a list times an int. -/
namespace Fz
open PySem PySem.Spec PyProof.Rows L2
def vMulA : D → D → Sto → R D
  | .str [c], .int k, S => if -1000000 < k ∧ k < 1000000 then .ok (.str (List.replicate k.toNat c)) S else .stuck
  | .int i, .int j, S => if mulOk i j then .ok (.int (i * j)) S else .stuck
  | .ref n, .int k, S => match S[n]? with
    | some (.lst ds) => if -(2 ^ 62) < k ∧ k < 2 ^ 62 ∧ ds.length * k.toNat ≤ LINE then .ok (.ref S.length) (S ++ [.lst (List.replicate k.toNat ds).flatten]) else .stuck
    | _ => .stuck
  | _, _, _ => .stuck
section
variable {X : Cx}
def rMulC : R2 := fun x y H Q => ∃ (c : Nat) (k : Int), x = .str ⟨#[c]⟩ ∧ y = .int k ∧ -1000000 < k ∧ k < 1000000 ∧ Q (.str ⟨(List.replicate k.toNat c).toArray⟩) H
theorem mulC_eq (c : Nat) (k : Int) : Txt.mul ⟨#[c]⟩ k = ⟨(List.replicate k.toNat c).toArray⟩ := by
  by_cases h : 1 ≤ k
  case neg =>
    unfold Txt.mul
    rw [if_pos (by omega), show k.toNat = 0 by omega]; rfl
  have fold : ∀ (n : Nat) (acc : Array Nat), (List.replicate n #[c]).foldl (· ++ ·) acc = acc ++ (List.replicate n c).toArray := by
    intro n
    induction n with
    | zero => intro acc; simp
    | succ n ih =>
      intro acc
      rw [List.replicate_succ, List.foldl_cons, ih, List.replicate_succ]
      apply Array.ext'
      simp
  unfold Txt.mul
  rw [if_neg (by omega)]
  split
  · rename_i h1
    have h2 : k = 1 := by
      have e : (Str.mk #[c]).length = 1 := rfl
      rw [e] at h1
      simpa using h1
    subst h2; rfl
  · rw [fold]; simp
theorem mulC_ok (c : Nat) (k : Int) (h : -1000000 < k) (h2 : k < 1000000) : PySem.MulOk ⟨#[c]⟩ k := by
  have e : (Str.mk #[c]).length = 1 := rfl
  refine ⟨?_, fun _ _ => ?_, fun _ _ => ?_⟩
  · simp; omega
  · rw [e]
    have : 1 ≤ (2 ^ 63 - 1) / k := by
      rw [Int.le_ediv_iff_mul_le (by omega)]; omega
    omega
  · rw [e]
    have : sizeLine = 16777216 := by decide
    simp [Builtin.Str.tooLong]; omega
theorem op_mulC : OpR X (binaryOp .Mult) rMulC := by
  intro pins s σ H x y v u Q I rx ry h
  obtain ⟨c, k, rfl, rfl, h1, h2, q⟩ := h
  obtain ⟨t, rfl⟩ := rx
  obtain ⟨t', rfl⟩ := ry
  refine PySem.SB.mul (mulC_ok c k h1 h2) fun t'' k'' => ?_
  rw [mulC_eq c k]
  exact ⟨.str _, H, I.tok _, ⟨_, rfl⟩, q⟩
def rMulA : R2 := fun x y H Q => ((rI mulOk fun i j => .int (i * j)) x y H Q ∨ rRep x y H Q) ∨ rMulC x y H Q
theorem op_mulA : OpR X (binaryOp .Mult) rMulA := (op_mulB.or op_rep).or op_mulC
theorem RVs.rep {G : Gm} {ι : List Addr} {H : Hp} {ds : List D} {vs : List V} (h : RVs G ι H ds vs) : ∀ k : Nat, RVs G ι H (List.replicate k ds).flatten (List.replicate k vs).flatten
  | 0 => rfl
  | k + 1 => by rw [List.replicate_succ, List.replicate_succ, List.flatten_cons, List.flatten_cons]; exact RVs.append h (RVs.rep h k)
theorem v_mulA {G : Gm} : V2 G vMulA rMulA := by
  intro W ι H S d e v u Q rep r1 r2 p
  unfold vMulA at p
  split at p
  · split at p
    · rename_i hc
      exact .inr ⟨_, _, r1, r2, hc.1, hc.2, p _ H ι (Ext.refl _ _) rep rfl⟩
    · exact p.elim
  · split at p
    · rename_i hc
      exact .inl (.inl ⟨_, _, r1, r2, hc, p _ H ι (Ext.refl _ _) rep rfl⟩)
    · exact p.elim
  · rename_i n k
    split at p
    · rename_i ds hx
      split at p
      · rename_i hl
        obtain ⟨a, h1, rfl⟩ := r1
        obtain ⟨vs, h3, h4⟩ := rep.cell _ _ a hx h1
        exact .inl (.inr ⟨a, k, vs, rfl, r2, h3, by omega, by omega, by rw [← h4.length, ← line_eq]; exact hl.2.2, fun q hq => post_lst rep (RVs.rep h4 k.toNat) hq p⟩)
      · exact p.elim
    · exact p.elim
  · exact p.elim
end
/-! ### sum of a tuple -/
def vSumA : List D → Sto → R D
  | [.tup ds], S => match intsOf ds with
    | some ns => .ok (.int ns.sum) S
    | none => .stuck
  | [d], S => match (lstOf d S).bind intsOf with
    | some ns => .ok (.int ns.sum) S
    | none => .stuck
  | _, _ => .stuck
section
variable {X : Cx}
def rSumT (K : PySem.W.Frag) : List V → Hp → VK → Prop := fun vs H Q => ∃ (a : Addr) (ns : List Int), vs = [V.ref a] ∧ SqT K H a (ns.map V.int) ∧ Q (.int ns.sum) H
theorem cr_sumT (hc : X.calm = true) : CallR X (.builtin "sum") (rSumT X.K) := by
  intro pins s σ H vs us Q I r h
  obtain ⟨a, ns, rfl, hs, q⟩ := h
  obtain ⟨its, rv, hl, _⟩ := I.tuple hs
  rw [Vals.ref1 r]
  obtain ⟨xs, e⟩ := rv.ints.allInts.items
  have hn : numsOf (intItems xs).toList = ns := by rw [← e]; exact rv.ints.numsOf
  rw [nums_intItems] at hn
  rw [e] at hl
  refine PySem.W.ktm_sumG (I.ok.hd hc) hl fun h' tk t' hk => ?_
  rw [preSum_eq, List.take_of_length_le (by simp), hn]
  exact ⟨.int _, H, I.kept hk, ⟨_, rfl⟩, q⟩
def rSumA (K : PySem.W.Frag) : List V → Hp → VK → Prop := fun vs H Q => rSum K vs H Q ∨ rSumT K vs H Q
theorem cr_sumA (hc : X.calm = true) : CallR X (.builtin "sum") (rSumA X.K) := by
  intro pins s σ H vs us Q I r h
  rcases h with h | h
  · exact cr_sum hc pins s σ H vs us Q I r h
  · exact cr_sumT hc pins s σ H vs us Q I r h
theorem v_sumA {G : Gm} : VN G vSumA (rSumA G.K) := by
  intro W ι H S ds vs Q rep rvs p
  unfold vSumA at p
  split at p
  · split at p
    · rename_i ns hns
      obtain ⟨v, rfl, r⟩ := args1 rvs
      obtain ⟨a, us, rfl, h3, h4⟩ := r
      obtain ⟨rfl, _⟩ := ints_vs h4 hns
      exact .inr ⟨a, ns, rfl, h3, p _ H ι (Ext.refl _ _) rep rfl⟩
    · exact p.elim
  · split at p
    · rename_i ns hns
      obtain ⟨v, rfl, r⟩ := args1 rvs
      obtain ⟨es, h1, h2⟩ := Option.bind_eq_some_iff.mp hns
      obtain ⟨a, us, rfl, h3, h4⟩ := lst_of rep r h1
      obtain ⟨rfl, _⟩ := ints_vs h4 h2
      exact .inl ⟨a, ns, rfl, h3, p _ H ι (Ext.refl _ _) rep rfl⟩
    · exact p.elim
  · exact p.elim
end
/-! ### a, b, .. = a tuple or a list -/
def gTl (n : Nat) (g : Tgs) : Tg := fun d env S => match d with
  | .tup ds => if ds.length = n then g ds env S else .stuck
  | d => match lstOf d S with
    | some ds => if ds.length = n then g ds env S else .stuck
    | none => .stuck
section
variable {X : Cx} {pos : Pos} {tgs : List Expr} {gs : Tgs} {ws : List Nat}
theorem pg_or {tg : Expr} {t t' : TG} (h : PG X tg t) (h' : PG X tg t') : PG X tg fun v σ H Q => t v σ H Q ∨ t' v σ H Q :=
  ⟨fun pins s σ H v u Q I r q => q.elim (h.run pins s σ H v u Q I r) (h'.run pins s σ H v u Q I r)⟩
theorem fg_tl {k n : Nat} (hc : X.calm = true) (h : FGs X ws tgs gs) (hn : (assignEach tgs X.env).length = n := by rfl) (hst : (assignEach tgs X.env).findIdx? (·.1) = none := by rfl) : FG X ws (.Tuple tgs k pos) (gTl n gs) := by
  refine ⟨PG.weak (pg_or (pg_tup hc h.pg hn hst) (pg_lst hc h.pg hn hst)) fun v σ H Q h => ?_⟩
  obtain ⟨ι, env, S, d, rep, er, rv, p⟩ := h
  unfold gTl at p
  split at p
  · split at p
    · rename_i hl
      obtain ⟨a, vs, rfl, h1, h2⟩ := rv
      exact .inl ⟨a, vs, rfl, h1, by rw [← h2.length]; exact hl, ι, env, S, _, rep, er, h2, p⟩
    · exact p.elim
  · split at p
    · rename_i ds hds
      split at p
      · rename_i hl
        obtain ⟨a, vs, rfl, h1, h2⟩ := lst_of rep rv hds
        exact .inr ⟨a, vs, rfl, h1, by rw [← h2.length]; exact hl, ι, env, S, _, rep, er, h2, p⟩
      · exact p.elim
    · exact p.elim
end
/-! ### list(range(a, b)) -/
instance (a b : Int) : Decidable (RgOk a b) := by unfold RgOk; infer_instance
def vLR (x y : D) (S : Sto) : R D := match x, y with
  | .int i, .int j => if RgOk i j then .ok (.ref S.length) (S ++ [.lst (intsD i 1 (j - i).toNat)]) else .stuck
  | _, _ => .stuck
section
variable {X : Cx} {W : WS} {a b : Expr} {fa fb : E} {p pos p2 pos2 : Pos}
theorem RVs.rg {G : Gm} {ι : List Addr} {H : Hp} (i j : Int) : RVs G ι H (intsD i 1 (j - i).toNat) (rgV i j) := by
  have e1 : intsD i 1 (j - i).toNat = ((List.range (j - i).toNat).map fun (k : Nat) => i + (k : Int)).map D.int := by
    unfold intsD; rw [List.map_map]; congr 1; funext k; simp [Int.mul_one]
  have e2 : rgV i j = ((List.range (j - i).toNat).map fun (k : Nat) => i + (k : Int)).map V.int := by
    unfold rgV; rw [List.map_map]; rfl
  rw [e1, e2]; exact RVs.ints _
theorem fe_lr (hc : X.calm = true) (hl : X.mg "list" = none) (hr : X.mg "range" = none) (ha : FE X W a fa) (hb : FE X W b fb) (hg : Gl X "list" := by rfl) (hg2 : Gl X "range" := by rfl)
    (na : starEach [a, b] X.env = (false, eval a X.env) :: starEach [b] X.env := by rfl) (nb : starEach [b] X.env = (false, eval b X.env) :: starEach [] X.env := by rfl) (hp : (backTo pos2 (starEach [b] X.env)).any (·.1) = false := by rfl)
    (nc : starEach [.Call (.Name "range" p2) [a, b] [] pos2] X.env = (false, eval (.Call (.Name "range" p2) [a, b] [] pos2) X.env) :: starEach [] X.env := by rfl) :
    FE X W (.Call (.Name "list" p) [.Call (.Name "range" p2) [a, b] [] pos2] [] pos) (e2 vLR fa fb) := by
  refine ⟨PE.weak (pe_listRg hc hg hl (prg_2 hg2 hr ha.pe hb.pe na nb hp) nc) fun σ H Q h => ?_⟩
  obtain ⟨ι, env, S, rep, er, q⟩ := h
  refine ⟨ι, env, S, rep, er, Post.imp (Post.bind q) fun x H1 q1 => ?_⟩
  obtain ⟨d1, S1, ι1, e1, rep1, r1, q1⟩ := q1
  refine ⟨ι1, env, S1, rep1, er.ext e1, Post.imp (Post.bind q1) fun y H2 q2 => ?_⟩
  obtain ⟨d2, S2, ι2, e2, rep2, r2, q2⟩ := q2
  unfold vLR at q2
  split at q2
  · rename_i i j
    split at q2
    · rename_i hk
      have r1' : x = .int i := r1
      exact ⟨i, j, r1', r2, hk, fun z hz => post_lst rep2 (RVs.rg i j) hz q2⟩
    · exact q2.elim
  · exact q2.elim
end
end Fz


/-! ### enumerate over a list -/
namespace Fz
open PySem PySem.Spec PyProof.Rows L2
def cEn (n k : Nat) : Src := ⟨fun i S => match S[n]? with
  | some (.lst ds) => some (ds[i]?.map fun d => .tup [.int (i : Nat), d])
  | _ => none, k⟩
def enOf (ds : List D) (S : Sto) : R Src := match ds with
  | [.ref n] => match S[n]? with
    | some (.lst ds) => .ok (cEn n ds.length) S
    | _ => .stuck
  | _ => .stuck
section
variable {X : Cx} {W : WS} {a tg : Expr} {fs : As} {p pos tpos : Pos} {elts : List Expr} {kk : Nat}
theorem src_en {G : Gm} {ι : List Addr} {H : Hp} {n k : Nat} {a : Addr} (h : ι[n]? = some a) : SrcR G ι H (cEn n k) (Ite G.K a) := fun i ι' H' S' e r => by
  have ha := e.pre n a h
  refine ⟨fun q => ?_, fun d q => ?_⟩
  · simp only [cEn] at q
    split at q
    · rename_i ds hds
      obtain ⟨vs, h1, h2⟩ := r.cell n _ a hds ha
      refine ⟨vs, .of h1, ?_⟩
      rw [← h2.length]
      have q' := Option.some.inj q
      rw [Option.map_eq_none_iff] at q'
      exact List.getElem?_eq_none_iff.mp q'
    · cases q
  · simp only [cEn] at q
    split at q
    · rename_i ds hds
      obtain ⟨vs, h1, h2⟩ := r.cell n _ a hds ha
      obtain ⟨d', hd', rfl⟩ := Option.map_eq_some_iff.mp (Option.some.inj q)
      obtain ⟨v, h3, h4⟩ := h2.get hd'
      refine ⟨⟨vs, v, .of h1, h3⟩, fun x H2 y => ?_⟩
      obtain ⟨T, u, rfl, hT, rfl, y2⟩ := y
      have e2 : v = u := Option.some.inj (h3.symm.trans (y2 vs (.of h1)))
      subst e2
      have rvs : RVs G ι' H' [.int (i : Nat), d'] [.int (i : Nat), v] := ⟨_, _, rfl, rfl, _, _, rfl, h4, rfl⟩
      exact ⟨ext_upd hT, r.other hT, ⟨T, _, rfl, .inl (.inl upd_same), RVs.ext (ext_upd hT) _ _ rvs⟩⟩
    · cases q
theorem fi_enum (hm : X.mg "enumerate" = none) (ha : FA X W [a] fs) (hg : Gl X "enumerate" := by rfl) (hs : starEach [a] X.env = [(false, eval a X.env)] := by rfl) : FI X W (.Tuple elts kk tpos) (.Call (.Name "enumerate" p) [a] [] pos) (iArg enOf fs) := by
  refine ⟨PI.weak (pi_enum hg hm ha.pa hs) fun σ H Q h => iarg_t (r := fun vs H1 R => ∃ a xs, vs = [.ref a] ∧ SqL X.K H1 a xs ∧ R (Ite X.K a) H1) h fun ι H S ds vs rep rvs q => ?_⟩
  unfold enOf at q
  split at q
  · rename_i n
    split at q
    · rename_i ds hds
      obtain ⟨v, vr, rfl, r1, r2⟩ := rvs
      have e2 : vr = [] := r2
      subst e2
      obtain ⟨a, h1, rfl⟩ := r1
      obtain ⟨vs, h2, h3⟩ := rep.cell n _ a hds h1
      exact ⟨a, vs, rfl, .of h2, q _ H ι (Ext.refl _ _) rep (src_en h1)⟩
    · exact q.elim
  · exact q.elim
end
end Fz

/-! Fz13: zip. -/
namespace Fz
open PySem PySem.Spec PyProof.Rows L2
def zpAt (xs ys : List D) (i : Nat) : Option D := match xs[i]?, ys[i]? with
  | some x, some y => some (.tup [x, y])
  | _, _ => none
def cZip (n m k : Nat) : Src := ⟨fun i S => match S[n]?, S[m]? with
  | some (.lst xs), some (.lst ys) => some (zpAt xs ys i)
  | _, _ => none, k⟩
def tZip (xs ys : List D) (k : Nat) : Src := ⟨fun i _ => some (zpAt xs ys i), k⟩
def zipOf (ds : List D) (S : Sto) : R Src := match ds with
  | [.ref n, .ref m] => match S[n]?, S[m]? with
    | some (.lst xs), some (.lst ys) => .ok (cZip n m (min xs.length ys.length)) S
    | _, _ => .stuck
  | [.tup xs, .tup ys] => .ok (tZip xs ys (min xs.length ys.length)) S
  | _ => .stuck
theorem zpAt_none {xs ys : List D} {i : Nat} (h : zpAt xs ys i = none) : xs.length ≤ i ∨ ys.length ≤ i := by
  unfold zpAt at h
  split at h
  · cases h
  · rename_i z
    rcases Nat.lt_or_ge i xs.length with h1 | h1
    · rcases Nat.lt_or_ge i ys.length with h2 | h2
      · exact absurd (List.getElem?_eq_getElem h2) (z _ _ (List.getElem?_eq_getElem h1))
      · exact .inr h2
    · exact .inl h1
theorem zpAt_some {xs ys : List D} {i : Nat} {d : D} (h : zpAt xs ys i = some d) : ∃ x y, xs[i]? = some x ∧ ys[i]? = some y ∧ d = .tup [x, y] := by
  unfold zpAt at h
  split at h
  · rename_i x y h1 h2; exact ⟨x, y, h1, h2, (Option.some.inj h).symm⟩
  · cases h
theorem pair_new {G : Gm} {ι : List Addr} {H : Hp} {S : Sto} {x y : D} {u v : V} {T : Addr} (r : Rep G ι H S) (hT : H T = none) (h1 : RV G ι H x u) (h2 : RV G ι H y v) :
    Ext ι H ι (upd H T (.tup [u, v])) ∧ Rep G ι (upd H T (.tup [u, v])) S ∧ RV G ι (upd H T (.tup [u, v])) (.tup [x, y]) (.ref T) := by
  have rvs : RVs G ι H [x, y] [u, v] := ⟨_, _, rfl, h1, _, _, rfl, h2, rfl⟩
  exact ⟨ext_upd hT, r.other hT, ⟨T, _, rfl, .inl (.inl upd_same), RVs.ext (ext_upd hT) _ _ rvs⟩⟩
section
variable {X : Cx} {W : WS} {a b tg : Expr} {fs : As} {p pos tpos : Pos} {elts : List Expr} {kk : Nat}
theorem src_zip {G : Gm} {ι : List Addr} {H : Hp} {n m k : Nat} {a b : Addr} (h : ι[n]? = some a) (hb : ι[m]? = some b) : SrcR G ι H (cZip n m k) (Itz G.K a b) := fun i ι' H' S' e r => by
  have ha := e.pre n a h
  have hb := e.pre m b hb
  have both : ∀ {q}, (cZip n m k).get i S' = some q → ∃ xs ys, S'[n]? = some (.lst xs) ∧ S'[m]? = some (.lst ys) ∧ zpAt xs ys i = q := fun {q} z => by
    simp only [cZip] at z
    split at z
    · rename_i xs ys h1 h2; exact ⟨xs, ys, h1, h2, Option.some.inj z⟩
    · cases z
  refine ⟨fun q => ?_, fun d q => ?_⟩
  · obtain ⟨xs, ys, h1, h2, h3⟩ := both q
    obtain ⟨vs, q1, q2⟩ := r.cell n _ a h1 ha
    obtain ⟨us, q3, q4⟩ := r.cell m _ b h2 hb
    refine ⟨vs, us, .of q1, .of q3, ?_⟩
    have l1 := q2.length
    have l2 := q4.length
    rcases zpAt_none h3 with z | z
    · exact .inl (by omega)
    · exact .inr (by omega)
  · obtain ⟨xs, ys, h1, h2, h3⟩ := both q
    obtain ⟨vs, q1, q2⟩ := r.cell n _ a h1 ha
    obtain ⟨us, q3, q4⟩ := r.cell m _ b h2 hb
    obtain ⟨x, y, e1, e2, rfl⟩ := zpAt_some h3
    obtain ⟨v, z1, z2⟩ := q2.get e1
    obtain ⟨u, z3, z4⟩ := q4.get e2
    refine ⟨⟨vs, us, v, u, .of q1, .of q3, z1, z3⟩, fun x' H2 hy => ?_⟩
    obtain ⟨T, v', u', rfl, hT, rfl, y1, y2⟩ := hy
    cases Option.some.inj (z1.symm.trans (y1 vs (.of q1)))
    cases Option.some.inj (z3.symm.trans (y2 us (.of q3)))
    exact pair_new r hT z2 z4
theorem src_zipT {G : Gm} {ι : List Addr} {H : Hp} {xs ys : List D} {k : Nat} {vs us : List V} {a b : Addr} (h : SqT G.K H a vs) (rv : RVs G ι H xs vs) (h' : SqT G.K H b us) (rv' : RVs G ι H ys us) : SrcR G ι H (tZip xs ys k) (RZ.ItzT G.K a b) := fun i ι' H' S' e r => by
  have q1 := sqT_ext e.toExt0 h
  have q2 := RVs.ext e _ _ rv
  have q3 := sqT_ext e.toExt0 h'
  have q4 := RVs.ext e _ _ rv'
  refine ⟨fun q => ?_, fun d q => ?_⟩
  · have h3 : zpAt xs ys i = none := Option.some.inj q
    refine ⟨vs, us, q1, q3, ?_⟩
    have l1 := q2.length
    have l2 := q4.length
    rcases zpAt_none h3 with z | z
    · exact .inl (by omega)
    · exact .inr (by omega)
  · have h3 : zpAt xs ys i = some d := Option.some.inj q
    obtain ⟨x, y, e1, e2, rfl⟩ := zpAt_some h3
    obtain ⟨v, z1, z2⟩ := q2.get e1
    obtain ⟨u, z3, z4⟩ := q4.get e2
    refine ⟨⟨vs, us, v, u, q1, q3, z1, z3⟩, fun x' H2 hy => ?_⟩
    obtain ⟨T, v', u', rfl, hT, rfl, y1, y2⟩ := hy
    cases Option.some.inj (z1.symm.trans (y1 vs q1))
    cases Option.some.inj (z3.symm.trans (y2 us q3))
    exact pair_new r hT z2 z4
theorem fi_zip (hm : X.mg "zip" = none) (ha : FA X W [a, b] fs) (hg : Gl X "zip" := by rfl) (hs : starEach [a, b] X.env = (false, eval a X.env) :: starEach [b] X.env := by rfl) (hpl : (backTo pos (starEach [b] X.env)).any (·.1) = false := by rfl) :
    FI X W (.Tuple elts kk tpos) (.Call (.Name "zip" p) [a, b] [] pos) (iArg zipOf fs) := by
  refine ⟨PI.weak (RZ.pi_zipA hg hm ha.pa hs hpl) fun σ H Q h => iarg_t (r := fun vs H1 R => ∃ a b xs ys, vs = [.ref a, .ref b] ∧ ((SqL X.K H1 a xs ∧ SqL X.K H1 b ys ∧ R (Itz X.K a b) H1) ∨ (SqT X.K H1 a xs ∧ SqT X.K H1 b ys ∧ R (RZ.ItzT X.K a b) H1))) h fun ι H S ds vs rep rvs q => ?_⟩
  unfold zipOf at q
  split at q
  · rename_i n m
    split at q
    · rename_i xs ys h1 h2
      obtain ⟨v, vr, rfl, r1, u, ur, rfl, r2, r3⟩ := rvs
      have e2 : ur = [] := r3
      subst e2
      obtain ⟨a, z1, rfl⟩ := r1
      obtain ⟨b, z2, rfl⟩ := r2
      obtain ⟨vs, q1, q2⟩ := rep.cell n _ a h1 z1
      obtain ⟨us, q3, q4⟩ := rep.cell m _ b h2 z2
      exact ⟨a, b, vs, us, rfl, .inl ⟨.of q1, .of q3, q _ H ι (Ext.refl _ _) rep (src_zip z1 z2)⟩⟩
    · exact q.elim
  · rename_i xs ys
    obtain ⟨v, vr, rfl, r1, u, ur, rfl, r2, r3⟩ := rvs
    have e2 : ur = [] := r3
    subst e2
    obtain ⟨a, vs, rfl, h1, h2⟩ := r1
    obtain ⟨b, us, rfl, h3, h4⟩ := r2
    exact ⟨a, b, vs, us, rfl, .inr ⟨h1, h3, q _ H ι (Ext.refl _ _) rep (src_zipT h1 h2 h3 h4)⟩⟩
  · exact q.elim
end
end Fz

/-! Fz14: lambdas without captured names: made, handed on, called. -/
namespace Fz
open PySem PySem.Spec PyProof.Rows L2 LamX NdefX
/-- the builtins' module, as the fixed heap has it -/
def BmG (base : Heap) (mg : Str → Option Value) : Prop := ∃ (bm : Addr) (ob : Obj), mg "__builtins__" = some (.ref bm) ∧ bm ≠ builtinsNs ∧ base.get? bm = some ob ∧ ob.cls = .type "module" ∧ ob.dict = some builtinsNs ∧ ob.data = .plain
section
variable {X : Cx} {pins : List (Addr × Obj)} {σ : L2.St} {H : Hp} {s : Shared}
theorem lamO_ne {f c' : Addr} {q : Str} {ps : Arguments} {b : Expr} {sc : Scope} (z : Array Value) : LamO f q ps b sc c' ≠ .tbl z := fun e => by
  unfold LamO at e
  cases e
/-- the function object just made is known from now on -/
theorem inv_lam {q : Str} {ps : Arguments} {b : Expr} {sc : Scope} {c' : Addr} {o : Obj} {t' : Nat} {pm ctv : Value} (I : Inv X pins σ H s) (ho : o = PySem.W.kla_obj "<lambda>" q ps b sc [] pm c' ctv) :
    Inv X pins σ (upd H s.heap.objs.size (LamO s.heap.objs.size q ps b sc c')) { s with heap := s.heap.push o, toks := t' } := by
  subst ho
  refine I.laid (a := s.heap.objs.size) (fun b u e => Heap.get?_push_of_some _ e) (Nat.le_refl _) ?_
  have e : (s.heap.push (PySem.W.kla_obj "<lambda>" q ps b sc [] pm c' ctv)).get? s.heap.objs.size = some (PySem.W.kla_obj "<lambda>" q ps b sc [] pm c' ctv) := Heap.get?_push_size _ rfl
  exact ⟨⟨_, _, pm, ctv, e⟩, ⟨_, e⟩, fun h1 h2 ⟨od, sl, p, t, z⟩ st => ⟨od, sl, p, t, st _ z⟩⟩
theorem lam_make3 {c P : Addr} {params : Arguments} {body : Expr} {scope : Scope} {pos : Pos} {E : Value → Shared → Prop} {Q : Value → Shared → Prop} (I : Inv X pins σ H s) (C : PySem.W.CodeHd s.heap c P) (B : BmG X.base X.mg) (hcode : X.env.code = .ref c)
    (hT : TabS H P (X.env.qual ++ "<lambda>")) (hdef : defaultsOf params X.env = ([], [])) (hfree : ∀ y ∈ scope.names, y.2 ≠ .free)
    (h : ∀ (f c' : Addr) (H1 : Hp) (s' : Shared), Inv X pins σ H1 s' → (∀ b o, b ≠ P → H b = some o → H1 b = some o) → TabS H1 P (X.env.qual ++ "<lambda>") →
      H1 f = some (LamO f (X.env.qual ++ "<lambda>") params body scope c') → H1 c' = some (CodeO c' (X.env.qual ++ "<lambda>")) → Q (.ref f) s') :
    wpAny (model X.prog X.w) X.A (eval (.Lambda params body scope pos) X.env) Q E s := by
  obtain ⟨ps, hP, ht, ha⟩ := hT
  refine PySem.W.kla_eval hdef ?_
  have hP' : s.heap.get? P = some { cls := .none, data := .fields ps } := I.hok P _ hP
  have gG := I.mod.glob.keeps I.bk
  have gP : mainGlobals ≠ P := fun z => by
    obtain ⟨o, es, ep, e, hd, _⟩ := gG
    rw [z, hP'] at e
    cases e
    cases hd
  have bP : s.heap.BuiltinsAt X.mg P := by
    obtain ⟨bm, ob, b1, b2, b3, b4, b5, b6⟩ := B
    have e := I.bk _ _ b3
    refine ⟨bm, ob, b1, b2, fun z => ?_, fun z => ?_, e, b4, b5, b6⟩
    · obtain ⟨o, es, ep, e', hd, _⟩ := gG
      rw [z, e'] at e
      cases e
      rw [b6] at hd
      cases hd
    · rw [z, hP'] at e
      cases e
      cases b4
  have hfr : ∀ y ∈ scope.names, y.2 = .free → ∃ c, X.env.cells.lookup y.1 = some c := fun y hy e => absurd e (hfree y hy)
  have clo : cloFrom X.env.cells scope.names [] = [] := by
    cases e : cloFrom X.env.cells scope.names [] with
    | nil => rfl
    | cons p r =>
      have hm : p ∈ cloFrom X.env.cells scope.names [] := by rw [e]; exact List.mem_cons_self
      rcases cloFrom_mem hm with z | ⟨z, _⟩
      · cases z
      · exact absurd rfl (hfree _ z)
  cases hc : codeAmong pos ps.toList with
  | none =>
    refine PySem.W.kla_makeFunction (mg := X.mg) (c := c) (P := P) (ps := ps) (closure_ok hfr) I.ok.glob (I.mod.glob.keeps I.bk) hcode C hP' ht hc gP bP fun c' ctv h' tk hx hge hlt hrec htb => ?_
    rw [clo]
    obtain ⟨c2, oc, vs, t, e2, hoc, hd, hv⟩ := hrec
    cases e2
    have nC : H c' = none := I.hok.fresh hge
    have I1 := inv_table (t' := tk) (more := #[rawInt pos.line, rawInt pos.col, .ref c']) (h' := h') I hP (fun b o hb e => hx b o hb e) htb hge ⟨oc, vs, t, hoc, hd, hv⟩
    have hE : ∀ b o, b ≠ P → H b = some o → (upd (upd H P (.tbl (ps ++ #[rawInt pos.line, rawInt pos.col, .ref c']))) c' (CodeO c' (X.env.qual ++ "<lambda>"))) b = some o := fun b o hb e => by
      rw [upd_ne (ne_of_none e nC), upd_ne hb]; exact e
    have eL : (ps ++ #[rawInt pos.line, rawInt pos.col, .ref c']).toList = ps.toList ++ [rawInt pos.line, rawInt pos.col, .ref c'] := by simp
    have T1 : TabS (upd (upd H P (.tbl (ps ++ #[rawInt pos.line, rawInt pos.col, .ref c']))) c' (CodeO c' (X.env.qual ++ "<lambda>"))) P (X.env.qual ++ "<lambda>") := by
      refine ⟨_, by rw [upd_ne (ne_of_none hP nC), upd_same], by rw [eL]; exact PySem.TriplesOk_snoc _ _ _ _ ht, fun p' cv hcv => ?_⟩
      rw [eL] at hcv
      rcases among_app _ ht hcv with z | z
      · obtain ⟨c0, e1, e2⟩ := ha p' cv z
        exact ⟨c0, e1, hE _ _ (fun z => by rw [z, hP] at e2; cases e2) e2⟩
      · exact ⟨c', z, upd_same⟩
    have nF := I1.hok.fresh (Nat.le_refl _)
    have I2 := inv_lam (q := X.env.qual ++ "<lambda>") (ps := params) (b := body) (sc := scope) (c' := c') (t' := tk) (pm := (X.mg "__name__").getD .none) (ctv := ctv) I1 rfl
    refine h h'.objs.size c' _ _ I2 (fun b o hb e => ?_) (T1.ext fun b o e => (upd_ne (ne_of_none e nF)).trans e) upd_same ?_
    · have e1 := hE b o hb e
      exact (upd_ne (ne_of_none e1 nF)).trans e1
    · exact (upd_ne (ne_of_none (upd_same (H := upd H P (.tbl (ps ++ #[rawInt pos.line, rawInt pos.col, .ref c'])))) nF)).trans upd_same
  | some cv =>
    obtain ⟨c', e, hco⟩ := ha pos cv hc
    subst e
    refine PySem.W.kla_makeFunctionHit (mg := X.mg) (c := c) (P := P) (ps := ps) (closure_ok hfr) I.ok.glob (I.mod.glob.keeps I.bk) hcode C hP' ht hc bP fun ctv h' tk hx hsz => ?_
    rw [clo]
    have I1 : Inv X pins σ H { s with heap := h', toks := tk } := I.kept hx
    have nF : H h'.objs.size = none := I1.hok.fresh (Nat.le_refl _)
    have I2 := inv_lam (q := X.env.qual ++ "<lambda>") (ps := params) (b := body) (sc := scope) (c' := c') (t' := tk) (pm := (X.mg "__name__").getD .none) (ctv := ctv) I1 rfl
    refine h h'.objs.size c' _ _ I2 (fun b o hb e => (upd_ne (ne_of_none e nF)).trans e) ?_ upd_same ?_
    · exact (show TabS H P _ from ⟨ps, hP, ht, ha⟩).ext fun b o e => (upd_ne (ne_of_none e nF)).trans e
    · exact (upd_ne (ne_of_none hco nF)).trans hco
end
section
variable {X : Cx} {W : WS}
/-- lambda ..: a value that tells the def it stands in -/
theorem fe_lam {nm : Str} {fa : Addr} {oc : Value} {od : Option Addr} {osl : Array (Option Value)} {fd : FuncData} {bd : List Stmt} {ps : Arguments} {b : Expr} {sc : Scope} {pos : Pos} (hm : X.mg nm = some (.ref fa)) (lk : X.K.lookup fa = some ⟨oc, od, .func fd, osl⟩)
    (hcd : X.env.code = fd.code) (hb : fd.body = .stmts bd) (hl : lamOf bd = some (ps, b, sc)) (hq : X.env.qual ++ "<lambda>" = lamQ nm) (B : BmG X.base X.mg) (hP : ∃ P, TabAt (gm X) nm P) (hdef : defaultsOf ps X.env = ([], [])) (hfree : ∀ y ∈ sc.names, y.2 ≠ .free) :
    FE X W (.Lambda ps b sc pos) (eC (.lam nm)) := by
  refine ⟨⟨fun pins s σ H Q I h => ?_⟩⟩
  obtain ⟨ι, env, S, rep, er, p⟩ := h
  obtain ⟨P, hT⟩ := hP
  have hC := rep.tabs nm P hT
  obtain ⟨fa', c, oc', od', osl', fd', bd', m1, m2, m3, _, m4, m5, m6⟩ := id hT
  have e1 : fa = fa' := by
    have z := hm.symm.trans m1
    cases z
    rfl
  subst e1
  have e2 : fd = fd' := by
    have z := lk.symm.trans m2
    cases z
    rfl
  subst e2
  obtain ⟨tb, hPt⟩ := tabS_at hC
  have hC0 := hC
  rw [← hq] at hC0
  refine lam_make3 I (m6 _ I.kIn) B (hcd.trans m3) hC0 hdef hfree fun f c' H1 s' I1 kp T1 hf hc => ?_
  rw [hq] at T1 hf hc
  have x0 : Ext0 ι H ι H1 := ⟨fun _ _ e => e, fun a xs e => kp a _ (fun z => by rw [z, hPt] at e; cases e) e, fun a o u e => kp a _ (fun z => by rw [z, hPt] at e; cases e) e, fun a g e => kp a _ (fun z => by rw [z, hPt] at e; cases e) e⟩
  have nP : ∀ i : Nat, ι[i]? ≠ some P := fun i e => by
    obtain ⟨u, hu, _, _, _, h4⟩ := rep.live e
    rw [hPt] at hu
    exact h4 tb (Option.some.inj hu).symm
  have al : ∀ (a : Addr) (o : HO), H a = some o → ∃ o', H1 a = some o' := fun a o e => by
    by_cases hz : a = P
    · obtain ⟨t', y⟩ := tabS_at T1
      exact ⟨_, by rw [hz]; exact y⟩
    · exact ⟨o, kp a o hz e⟩
  have x : Ext ι H ι H1 := ⟨x0, fun a o e n t => kp a o (fun z => by rw [z, hPt] at e; exact t tb (Option.some.inj e).symm) e, fun a o e _ => al a o e, fun i a e => .inl ⟨i, e⟩⟩
  refine ⟨.ref f, H1, I1, rfl, p (.ref f) H1 ι x ⟨rep.len, rep.inj, fun i cl a h1 h2 => ?_, fun nm' P' hP' => ?_, rep.tinj⟩ ⟨f, c', ps, b, sc, rfl, ⟨fa, oc, od, osl, fd, bd, hm, lk, hb, hl⟩, hf, hc⟩⟩
  · have h3 := rep.cell i cl a h1 h2
    obtain ⟨o, ho, _⟩ := h3.live
    exact h3.ext x0 ((kp a o (fun z => nP i (by rw [← z]; exact h2)) ho).trans ho.symm)
  · by_cases hz : P' = P
    · subst hz
      have e := rep.tinj _ _ _ hP' hT
      subst e
      exact T1
    · have h4 := rep.tabs nm' P' hP'
      obtain ⟨t', y⟩ := tabS_at h4
      exact tabS_ext x0 h4 ((kp P' _ hz y).trans y.symm)
end
/-! ### its body -/
/-- the lambda in the def nm does as F -/
structure LamG (P : Program) (w : World) (K : PySem.W.Frag) (mg : Str → Option Value) (base : Heap) (k : Nat) (nm : Str) (np : Nat) (F : Fn) : Prop where
  run : ∀ (A : Around) (outer : List Env) (s : Shared) (H : Hp) (f c' : Addr) (pr : Arguments) (b : Expr) (sc : Scope) (us : List Value) (vs : List V) (Q : VK) (E : XK) (ι : List Addr) (ds : List D) (S : Sto),
    LamAt ⟨K, mg⟩ nm pr b sc → H f = some (LamO f (lamQ nm) pr b sc c') → H c' = some (CodeO c' (lamQ nm)) → A.guards = some [] → Room k A → Env0 P w K mg base A outer s H → Vals vs us → Rep ⟨K, mg⟩ ι H S → RVs ⟨K, mg⟩ ι H ds vs → ds.length = np →
    Post ⟨K, mg⟩ (RV ⟨K, mg⟩) (fun c d H' => E c d H') ι H (F ds S) Q → codeAny (model P w) A (.call (.ref f) ⟨us, []⟩) (CR (L2.CX P w) outer P w H s Q E) s
theorem LamG.mono {P : Program} {w : World} {K : PySem.W.Frag} {mg : Str → Option Value} {base : Heap} {j k np : Nat} {nm : Str} {F : Fn} (h : LamG P w K mg base j nm np F) (le : j ≤ k) : LamG P w K mg base k nm np F :=
  ⟨fun A outer s H f c' pr b sc us vs Q E ι ds S h0 h1 h2 hg hr => h.run A outer s H f c' pr b sc us vs Q E ι ds S h0 h1 h2 hg (hr.mono le)⟩
abbrev lamF (q : Str) (pr : Arguments) (sc : Scope) (c' : Addr) : NF := ⟨"<lambda>", q, pr, [], sc, [], c'⟩
section
variable {P : Program} {w : World} {K : PySem.W.Frag} {mg : Str → Option Value} {base : Heap}
theorem lamg_of {k : Nat} {nm : Str} {fa : Addr} {oc : Value} {od : Option Addr} {osl : Array (Option Value)} {fd : FuncData} {bd : List Stmt} {pr : Arguments} {b : Expr} {sc : Scope} {ps : List Str} {fe : E} (hm : mg nm = some (.ref fa)) (lk : K.lookup fa = some ⟨oc, od, .func fd, osl⟩)
    (hb : fd.body = .stmts bd) (hl : lamOf bd = some (pr, b, sc)) (Sc : NScope ps ps [] sc)
    (hbind : ∀ (pm cv ctv : Value) (us : List Value), us.length = ps.length → bindArgs (PySem.W.kla_fn "<lambda>" (lamQ nm) pr b sc [] pm cv ctv) ⟨us, []⟩ = pure (ps.zip us))
    (hbody : ∀ (A : Around) (outer : List Env) (s : Shared) (H : Hp) (E : XK) (f c' : Addr), A.guards = some [] → Room k (A.deeper (envF (lamF (lamQ nm) pr sc c') f s.heap.objs.size)) →
      FE (ncx (L2.CX P w) P w K mg base ps (lamF (lamQ nm) pr sc c') f A outer s H E) (fun c d _ H' => E c d H') b fe) :
    LamG P w K mg base (k + 1) nm ps.length (defF ps.length ps.length (sRet fe)) := by
  constructor
  intro A outer s H f c' pr' b' sc' us vs Q E ι ds S hA hf hc gd room e0 vals rep rvs hlen post
  have e : (pr', b', sc') = (pr, b, sc) := by
    obtain ⟨fa', oc', od', osl', fd', bd', m1, m2, m3, m4⟩ := hA
    have e1 : fa = fa' := by
      have z := hm.symm.trans m1
      cases z
      rfl
    subst e1
    have e2 : fd = fd' := by
      have z := lk.symm.trans m2
      cases z
      rfl
    subst e2
    have e3 : bd = bd' := by
      have z := hb.symm.trans m3
      cases z
      rfl
    subst e3
    exact Option.some.inj (m4.symm.trans hl)
  cases e
  have lvs : vs.length = ps.length := rvs.length.symm.trans hlen
  have nl : s.heap.NoLimit := e0.mod.nolimit.keeps fun b o e => (e0.bs b o e).1
  obtain ⟨⟨od1, sl, pm, ctv, ho⟩, _, _⟩ := e0.hok f _ hf
  refine PySem.W.kla_callFunE room.depth ho rfl Sc.co Sc.gen rfl (codeO_at e0.hok hc) ?_
  rw [hbind _ _ _ us (by rw [← vals.length]; exact lvs)]
  refine wpAny_pure (wpAny_newFunctionEnv Sc.nocell (fun ⟨n, _⟩ hy => Sc.par n (List.of_mem_zip hy).1) (fun h₁ hns hsb => ⟨nl.fresh _ hsb, ?_⟩) Sc.kind)
  show codeAny _ _ (.expr b (envF (lamF (lamQ nm) pr sc c') f s.heap.objs.size)) _ _
  have kp : ∀ b o, s.heap.get? b = some o → h₁.get? b = some o := fun b o e => hsb.extBut b o (Nat.ne_of_lt (Heap.lt_size e)) (Heap.get?_push_of_some _ e)
  have C : CellsAt (lamF (lamQ nm) pr sc c').cl [] [] s.heap H := ⟨rfl, (fun y c e => nomatch e), (fun x y c e => nomatch e), (fun i y e => nomatch e)⟩
  have I : Inv (ncx (L2.CX P w) P w K mg base ps (lamF (lamQ nm) pr sc c') f A outer s H E) [] (startF ps vs []) H { s with heap := h₁, toks := s.toks + (ps.zip us).length } := inv_startN Sc room.hd e0 lvs vals C hns kp
  have fs := hbody A outer s H E f c' gd (room.deeper _)
  have post' : Post ⟨K, mg⟩ (RV ⟨K, mg⟩) (fun c d H' => E c d H') ι H (flR S.length (sRet fe (ds.map some ++ List.replicate (ps.length - ds.length) none) S)) Q := by
    unfold defF at post
    rw [if_pos hlen, ← hlen] at post
    rw [← hlen]
    exact post
  have pS : PostS ⟨K, mg⟩ (fun c d _ H' => E c d H') ι H (sRet fe (ds.map some ++ List.replicate (ps.length - ds.length) none) S) { nx := fun _ H' => Q .non H', rt := Q } := flR_post rep.len (fun _ _ _ _ => Iff.rfl) post'
  have st : startF ps vs [] = L2.start ps vs := by unfold startF L2.start; simp
  rw [st] at I
  have tsd : tE (gm (ncx (L2.CX P w) P w K mg base ps (lamF (lamQ nm) pr sc c') f A outer s H E)) (fun c d _ H' => E c d H') fe (L2.start ps vs) H Q := by
    refine ⟨ι, _, S, rep, start_env rvs, Post.imp (PostS.bind (σ := L2.start ps vs) pS) fun v H1 q => ?_⟩
    obtain ⟨d, S1, ι1, e1, rep1, rv, q⟩ := q
    exact q v H1 ι1 (Ext.refl _ _) rep1 rv
  refine PySem.W.kla_codeExpr (wpAny_mono (fs.pe.run [] _ _ H Q I tsd) (fun v s' hq => ?_) fun e s' hq => hq)
  obtain ⟨w', H', J', rv, q⟩ := hq
  exact ⟨w', H', J'.os, J'.bare, J'.base, J'.hok, rv, q⟩
end

/-! ### a call of a name that holds a lambda -/
abbrev LTab := List (Str × Nat × Fn)
def lamCall (tb : LTab) (nm : Str) (ds : List D) (S : Sto) : R D := match tb.lookup nm with
  | some (np, F) => if ds.length = np then F ds S else .stuck
  | none => .stuck
def eCallL (tb : LTab) (i : Nat) (fs : As) : E := fun env S => match env[i]? with
  | some (some (.lam nm)) => (fs env S).bind fun ds S1 => lamCall tb nm ds S1
  | _ => .stuck
theorem lamAt_fn {X : Cx} {pins : List (Addr × Obj)} {σ : L2.St} {H : Hp} {s : Shared} {f c' : Addr} {q : Str} {pr : Arguments} {b : Expr} {sc : Scope} (I : Inv X pins σ H s) (e : H f = some (LamO f q pr b sc c')) : PySem.W.FnAt f s.heap := by
  obtain ⟨⟨od, sl, pm, ctv, ho⟩, _, _⟩ := I.hok f _ e
  exact ⟨_, od, _, sl, ho⟩
section
variable {X : Cx} {W : WS} {k i : Nat} {tb : LTab} {x : Str} {p pos : Pos} {e : Expr} {es : List Expr} {fs : As}
theorem fe_calll (hA : ∀ nm np F, tb.lookup nm = some (np, F) → LamG X.prog X.w X.K X.mg X.base k nm np F) (hgd : X.A.guards = some []) (hr : Room k X.A) (tk : Takes X W) (i : Nat) (ha : FA X W (e :: es) fs) (hN : X.N[i]? = some x := by rfl)
    (hv : Vis X.env.scope x := by first | exact Or.inl rfl | exact Or.inr (Or.inl rfl) | exact Or.inr (Or.inr rfl)) (hdb : (x == ("__debug__" : Str)) = false := by decide) (hcd : (x == ("__classdict__" : Str)) = false := by decide)
    (he : starEach (e :: es) X.env = (false, eval e X.env) :: starEach es X.env := by rfl) (hpl : (backTo pos (starEach es X.env)).any (·.1) = false := by rfl) : FE X W (.Call (.Name x p) (e :: es) [] pos) (eCallL tb i fs) := by
  constructor
  constructor
  rintro pins s σ H Q I ⟨ι, env, S, rep, er, post⟩
  unfold eCallL at post
  split at post
  · rename_i nm hn
    obtain ⟨v, hs, f, c', pr, b, sc, rfl, hL, hf, hc⟩ := er.at_ i _ hn
    refine wpAny_Call_Name_kw (thn ((pe_var (pos := p) hN hv hdb hcd).run pins s σ H (fun v H1 => v = .ref f ∧ H1 = H) I ⟨.ref f, hs, rfl, rfl⟩) fun u s1 ⟨v, H1, I1, r1, q1⟩ => ?_)
    obtain ⟨ev, eH⟩ := q1
    subst ev
    rw [eH] at I1
    obtain rfl : u = Value.ref f := r1
    have run := ha.pa.run pos pins s1 σ H _ I1 ⟨ι, env, S, rep, er, Post.bind post⟩
    refine PySem.W.callWith_F (first := []) (lamAt_fn I1 hf) (thn run fun us s2 hq => ?_) he hpl
    obtain ⟨vs, H2, I2, r, ds, S1, ι1, ex, rep1, rvs, q⟩ := hq
    have hf2 := ex.exts _ _ hf
    have hc2 := ex.exts _ _ hc
    refine ⟨lamAt_fn I2 hf2, ?_⟩
    show wpAny _ _ (call (.ref f) us) _ _ _
    unfold lamCall at q
    split at q
    · rename_i np F hl
      split at q
      · rename_i hlen
        apply wpAny_call
        refine codeAny_mono ((hA nm np F hl).run X.A X.stack s2 H2 f c' pr b sc us vs Q (fun c d H' => W c d σ H') ι1 ds S1 hL hf2 hc2 hgd hr I2.env0 r rep1 rvs hlen q) fun res s' hq => ?_
        cases res with
        | error er => exact passAt tk σ pins H2 s2 er s' I2 hq
        | ok fl =>
          cases fl with
          | ret u => exact I2.after hq
          | next => exact False.elim hq
          | brk => exact False.elim hq
          | cont => exact False.elim hq
      · exact q.elim
    · exact q.elim
  · exact post.elim
end
end Fz

/-! Fz15: the end of a law some of whose defs hand on lambdas. -/
namespace Fz
open PySem PySem.Spec PySem.Calls PyProof.Rows L2
/-- the lambdas' makers: own name, code object, table -/
def lamEnt (K : PySem.W.Frag) (q : Addr × Obj) : Option (Str × Addr × Addr) := match q.2.data with
  | .func fd => (match fd.body with
    | .stmts bd => if (lamOf bd).isSome then (match PySem.W.nsIn K mainGlobals fd.qualname with
      | some (some (.ref g)) => if g == q.1 then (PySem.W.tabIn K fd.qualname).map (fd.qualname, ·) else none
      | _ => none) else none
    | _ => none)
  | _ => none
def lamTabs (K : PySem.W.Frag) : List (Str × Addr × Addr) := K.filterMap (lamEnt K)
/-- whether all that is needed is known of one -/
def lamOk (q : Program) (K : PySem.W.Frag) (e : Addr × Obj) : Bool := match e.2.data with
  | .func fd => (match fd.body with
    | .stmts bd => if (lamOf bd).isSome then (match PySem.W.nsIn K mainGlobals fd.qualname with
      | some (some (.ref g)) => if g == e.1 then (PySem.W.tabIn K fd.qualname).isSome && ((recsOf q).find? (fun d => d.name == fd.qualname)).isSome else true
      | _ => false) else true
    | _ => true)
  | _ => true
def lamChk (q : Program) (K : PySem.W.Frag) : Bool := PySem.W.noTabs K && K.all (lamOk q K) && (lamTabs K).all fun a => (lamTabs K).all fun b => !(a.2.2 == b.2.2) || a.1 == b.1
section
variable {q : Program} {loose : List Str} {mean : ExcName → Option Value} {mg mb : Str → Option Value} {h : Heap} {K : PySem.W.Frag}
/-- all tables that values may need are among them -/
theorem lam_all (ck : lamChk q K = true) (X : K.In h) (T : Top q loose mean mg mb h) {nm : Str} {P : Addr} (hP : TabAt ⟨K, mg⟩ nm P) : ∃ c, (nm, c, P) ∈ lamTabs K ∧ PySem.W.CodeHd h c P ∧ h.get? P = some { cls := .none, data := .fields #[] } := by
  obtain ⟨f, c, oc, od, osl, fd, bd, m1, m2, m3, m4, m5, m6, m7⟩ := hP
  have hm := mem_of_look m2
  unfold lamChk at ck
  simp only [Bool.and_eq_true] at ck
  have k1 := List.all_eq_true.mp ck.1.2 _ hm
  have e0 : lamEnt K (f, ⟨oc, od, .func fd, osl⟩) = (match PySem.W.nsIn K mainGlobals fd.qualname with
      | some (some (.ref g)) => if g == f then (PySem.W.tabIn K fd.qualname).map (fd.qualname, ·) else none
      | _ => none) := by
    unfold lamEnt
    simp only [m5, m6, if_true]
  unfold lamOk at k1
  simp only [m5, m6, if_true] at k1
  split at k1
  · rename_i g hg
    have m1' : mg fd.qualname = some (.ref f) := by rw [m4]; exact m1
    have e1 := PySem.W.mg_of X T.g hg
    have m8 : g = f := by
      rw [m1'] at e1
      cases e1
      rfl
    subst m8
    simp only [beq_self_eq_true, if_true, Bool.and_eq_true] at k1
    obtain ⟨⟨c', P'⟩, ht⟩ := Option.isSome_iff_exists.mp k1.1
    obtain ⟨d, hr⟩ := Option.isSome_iff_exists.mp k1.2
    obtain ⟨C, hT⟩ := PySem.W.tab_of T X hr ht
    have ec := PySem.W.law_code X T.g ht m1' (X _ _ m2) rfl
    rw [m3] at ec
    cases ec
    have C2 := m7 h X
    have eP : P' = P := by
      obtain ⟨o, us, _, _, _, _, _, _, _, a1, _, a2, a3, _⟩ := C
      obtain ⟨o', us', _, _, _, _, _, _, _, b1, _, b2, b3, _⟩ := C2
      rw [a1] at b1
      cases b1
      rw [a2] at b2
      cases b2
      rw [a3] at b3
      cases b3
      rfl
    subst eP
    refine ⟨c, List.mem_filterMap.mpr ⟨_, hm, ?_⟩, C, hT⟩
    rw [e0]
    subst m4
    rw [hg]
    simp only [beq_self_eq_true, if_true, ht, Option.map_some]
  · cases k1
end
section
variable {P : Program} {w : World} {K : PySem.W.Frag} {mg mb : Str → Option Value} {k : Nat} {fa a : Addr} {fd : FuncData} {x : Str} {s₁ : Shared} {vs : List Value} {ns : List Int} {F : Fn}
/-- as law_callG, with tables -/
theorem law_callL {cs : List Addr} (KX : K.In s₁.heap) (hns : s₁.heap.Ns mainGlobals mg) (hb : s₁.heap.Ns builtinsNs mb) (hbb : ∀ x : Str, x ≠ "__name__" → mb x = bootBuiltins x) (hlim : s₁.heap.NoLimit) (hg : s₁.gens = #[])
    (hT : ∀ p ∈ cs, s₁.heap.get? p = some { cls := .none, data := .fields #[] } ∧ K.lookup p = none ∧ ∃ c, PySem.W.CodeHd s₁.heap c p) (hall : ∀ (nm : Str) (P : Addr), TabAt ⟨K, mg⟩ nm P → P ∈ cs) (tinj : ∀ (nm nm' : Str) (P : Addr), TabAt ⟨K, mg⟩ nm P → TabAt ⟨K, mg⟩ nm' P → nm = nm')
    (hbm : BmG s₁.heap mg)
    (ha : s₁.heap.get? a = some { cls := .type "list", data := .seq vs.toArray }) (hi : IntsAre vs ns) (hl : ns.length ≤ sizeLine) (hr : Room k callerA)
    (hF : ∀ base : Heap, K.In base → base.Ns mainGlobals mg → BmG base mg → FnG P w K mg base k fa fd [x] F) (hbind : ∀ (s : Shared) (u : Value), BindsTo s fd ⟨[u], []⟩ [(x, u)])
    (hok : F [.frl (ns.map D.int)] [] = .ok (.bl true) []) :
    codeAny (model P w) callerA (.call (.ref fa) ⟨[.ref a], []⟩) (fun r s' => r = .ok (.ret (.bool true)) ∧ OldK s₁.heap s'.heap ∧ s'.os = s₁.os ∧ AllBare s'.gens) s₁ := by
  have rel := vals_ints hi
  have vlen := hi.length
  have aT : a ∉ cs := fun z => by
    have q := (hT a z).1
    rw [ha] at q
    have z' : Data.seq vs.toArray _ = Data.fields #[] := congrArg Obj.data (Option.some.inj q)
    cases z'
  have main : ∀ H : Hp, (∀ p ∈ cs, H p = some (.tbl #[])) → (∀ b, H b = none ∨ b ∈ cs ∨ (b = a ∧ ∃ o, H b = some (.frz o (.lst (ns.map V.int))))) → SqF K H a (ns.map V.int) → HOk P w H s₁.heap → (H a ≠ none → K.lookup a = none) →
      codeAny (model P w) callerA (.call (.ref fa) ⟨[.ref a], []⟩) (fun r s' => r = .ok (.ret (.bool true)) ∧ OldK s₁.heap s'.heap ∧ s'.os = s₁.os ∧ AllBare s'.gens) s₁ := by
    intro H hH only sq hok' noK
    have only' : ∀ b, H b ≠ none → b = a ∨ b ∈ cs := fun b z => by
      rcases only b with y | y | ⟨y, _⟩
      · exact absurd y z
      · exact .inr y
      · exact .inl y
    have low : ∀ {b : Addr} {o : Obj}, s₁.heap.get? b = some o → H b = none → (hidT s₁.heap H).get? b = some o := fun e n => hidT_get e n
    have noD : ∀ {b : Addr} {o : Obj}, s₁.heap.get? b = some o → (∀ vs n, o.data ≠ .seq vs n) → o.data ≠ .fields #[] → H b = none := fun {b o} e h1 h2 => by
      cases q : H b with
      | none => rfl
      | some u =>
        rcases only' b (by rw [q]; simp) with e' | e'
        · rw [e', ha] at e
          cases e
          exact (h1 _ _ rfl).elim
        · rw [(hT b e').1] at e
          cases e
          exact (h2 rfl).elim
    have dictFree : ∀ {b : Addr} {o : Obj} {es : Array DictEntry} {ep : Nat}, s₁.heap.get? b = some o → o.data = .dict es ep → H b = none := fun {b o es ep} e d =>
      noD e (fun vs n z => by rw [d] at z; cases z) fun z => by rw [d] at z; cases z
    have nsLow : ∀ {b : Addr} {m : Str → Option Value}, s₁.heap.Ns b m → (hidT s₁.heap H).Ns b m := by
      rintro b m ⟨o, es, ep, e, d, r⟩
      exact ⟨o, es, ep, low e (dictFree e d), d, r⟩
    have kLow : K.In (hidT s₁.heap H) := by
      intro b o e
      refine low (KX b o e) ?_
      by_cases z : H b = none
      · exact z
      · rcases only' b z with e' | e'
        · subst e'
          rw [noK z] at e
          cases e
        · rw [(hT b e').2.1] at e
          cases e
    have bmLow : BmG (hidT s₁.heap H) mg := by
      obtain ⟨bm, ob, b1, b2, b3, b4, b5, b6⟩ := hbm
      refine ⟨bm, ob, b1, b2, low b3 (noD b3 (fun vs n z => ?_) fun z => ?_), b4, b5, b6⟩
      · rw [b6] at z
        cases z
      · rw [b6] at z
        cases z
    have md : Mod K mg (hidT s₁.heap H) := by
      obtain ⟨mc, h1, h2⟩ := hlim
      exact ⟨kLow, nsLow hns, ⟨mb, nsLow hb, hbb⟩, ⟨mc, nsLow h1, h2⟩⟩
    have env0 : Env0 P w K mg (hidT s₁.heap H) callerA [] s₁ H :=
      ⟨rfl, md, fun b o e => of_hidT e, Nat.le_of_eq (hidT_size _ _), trivial, (fun b hb => absurd (show b ∈ ([] : List Addr) from hb) (by simp)), hok', .of_eq hg⟩
    have rep : Rep ⟨K, mg⟩ [] H [] := ⟨rfl, fun i j a h => by simp at h, fun i c a h => by simp at h, fun nm P hP => ⟨#[], hH P (hall nm P hP), trivial, fun p cv hc => by cases hc⟩, fun nm nm' P hP hP' => tinj nm nm' P hP hP'⟩
    have rv : RVs ⟨K, mg⟩ [] H [.frl (ns.map D.int)] [.ref a] := RVs.one ⟨a, ns.map V.int, rfl, sq, RVs.ints ns⟩
    have run := (hF _ kLow (nsLow hns) bmLow).run callerA [] s₁ H ⟨[.ref a], []⟩ [.ref a] [.ref a] (fun v _ => v = .bl true) (fun _ _ _ => False) [] [.frl (ns.map D.int)] [] rfl hr env0 (hbind s₁ (.ref a)) (.cons rfl .nil) rep rv rfl
      (by rw [hok]; exact fun v H' ι' _ _ rv => rv)
    refine codeAny_mono run fun r s' h => ?_
    cases r with
    | error e =>
      obtain ⟨_, _, _, _, _, _, _, _, _, _, _, _, z⟩ := h
      exact z.elim
    | ok fl =>
      cases fl with
      | ret u =>
        obtain ⟨v, H', os, bare, un, hok2, r', q⟩ := h
        have q' : v = .bl true := q
        subst q'
        obtain rfl : u = Value.bool true := r'
        have key : ∀ b o, b ∉ cs → s₁.heap.get? b = some o → s'.heap.get? b = some o := fun b o nb e => by
          rcases only b with z | z | ⟨_, ob, z⟩
          · exact un.keep b o e z (by intro y; cases y) (by simp)
          · exact absurd z nb
          · have z2 := un.frzs b ob _ z
            have e1 := (hok' b _ z).1
            have e2 := (hok2 b _ z2).1
            rw [e] at e1
            cases e1
            exact e2
        have grown : ∀ p ∈ cs, ∃ more : Array Value, s'.heap.get? p = some { cls := .none, data := .fields more } := fun p hp => by
          obtain ⟨more, z⟩ := un.tbls p #[] (hH p hp)
          exact ⟨_, hok2 p _ z⟩
        refine ⟨rfl, ⟨fun b o e => ?_, fun b o e => ?_⟩, os, bare⟩
        · by_cases hb : b ∈ cs
          · obtain ⟨more, hm⟩ := grown b hb
            obtain ⟨t1, t2, c, t3⟩ := hT b hb
            rw [t1] at e
            cases e
            exact .inr (.inl ⟨(t3.tab t1).isCodeTable, rfl, #[], more, rfl, by rw [Array.empty_append]; exact hm⟩)
          · exact .inl (key b o hb e)
        · by_cases hb : b ∈ cs
          · obtain ⟨more, hm⟩ := grown b hb
            exact ⟨_, hm⟩
          · exact ⟨o, key b o hb e⟩
      | next => exact False.elim h
      | brk => exact False.elim h
      | cont => exact False.elim h
  cases hk : K.lookup a with
  | some o =>
    have e := KX a o hk
    rw [ha] at e
    cases e
    refine main (fun b => if b ∈ cs then some (.tbl #[]) else none) (fun p hp => if_pos hp) (fun b => ?_) (.inr ⟨_, vs.toArray, _, hk, rfl, rfl, rfl, ?_, ?_⟩) (fun b u z => ?_) fun z => absurd (show (if a ∈ cs then some (HO.tbl #[]) else none) = none from if_neg aT) z
    · by_cases hb : b ∈ cs
      · exact .inr (.inl hb)
      · exact .inl (if_neg hb)
    · rw [List.size_toArray, vlen]
      exact hl
    · simpa using rel
    · by_cases hb : b ∈ cs
      · have z' := (if_pos hb).symm.trans z
        cases z'
        exact (hT b hb).1
      · have z' := (if_neg hb).symm.trans z
        cases z'
  | none =>
    refine main (fun b => if b = a then some (.frz { cls := .type "list", data := .seq vs.toArray } (.lst (ns.map V.int))) else if b ∈ cs then some (.tbl #[]) else none) (fun p hp => (if_neg (show ¬ p = a from fun z => aT (by rw [← z]; exact hp))).trans (if_pos hp)) (fun b => ?_) (.inl ⟨_, if_pos rfl⟩) (fun b u z => ?_) fun _ => hk
    · by_cases hb : b = a
      · exact .inr (.inr ⟨hb, _, if_pos hb⟩)
      · by_cases hb2 : b ∈ cs
        · exact .inr (.inl hb2)
        · exact .inl ((if_neg hb).trans (if_neg hb2))
    · by_cases hb : b = a
      · subst hb
        have z' := (if_pos rfl).symm.trans z
        cases z'
        exact ⟨ha, by rw [List.length_map]; exact hl, vs, _, rel, ha⟩
      · have z1 := (if_neg hb).symm.trans z
        by_cases hb2 : b ∈ cs
        · have z' := (if_pos hb2).symm.trans z1
          cases z'
          exact (hT b hb2).1
        · have z' := (if_neg hb2).symm.trans z1
          cases z'
/-- the goal that k_head leaves, lambdas handed on -/
theorem walk_L {l : PySem.W.OpenLaw} {n k : Nat} {q : Program} {loose : List Str} {XP : (Str → Option Value) → Heap → Prop} {YP : World → Heap → Prop} {d : DefRec} {K : Params → PySem.W.Frag} {x : Str} {F : Fn}
    (hn : l.most = some n) (hn2 : n ≤ sizeLine) (hdf : d.params.defaults = []) (hr : Room k callerA)
    (hY : ∀ (w : World) (h : Heap), YP w h → (K w.params).In h)
    (hF : ∀ (w : World) (mg : Str → Option Value) (fa : Addr) (h : Heap), (K w.params).In h → h.Ns mainGlobals mg → mg d.name = some (.ref fa) →
      ∃ fd : FuncData, (∀ (s : Shared) (u : Value), BindsTo s fd ⟨[u], []⟩ [(x, u)]) ∧
        ∀ base : Heap, (K w.params).In base → base.Ns mainGlobals mg → BmG base mg → FnG l.prog w (K w.params) mg base k fa fd [x] F)
    (hck : ∀ w : World, lamChk q (K w.params) = true) (hok : ∀ ns : List Int, ns.length ≤ n → F [.frl (ns.map D.int)] [] = .ok (.bl true) []) :
    PySem.W.WalkO q loose XP YP l.row.toRowW d [] (fun f vs => PySem.call f vs) := by
  apply Att.attach_call hn hdf
  intro w s₀ s₁ mg mb fa o pm cd doc a vs ns G Y ho hd hcd hmg hobj hints hlen hg
  have KX := hY w _ Y
  obtain ⟨fd, hb, hF'⟩ := hF w mg fa _ KX G.T.g hmg
  have ck := hck w
  have all := fun {nm : Str} {P : Addr} (hP : TabAt ⟨K w.params, mg⟩ nm P) => lam_all ck KX G.T hP
  have ck' := ck
  unfold lamChk at ck'
  simp only [Bool.and_eq_true] at ck'
  have inj := List.all_eq_true.mp ck'.2
  have noT : ∀ p : Addr, s₁.heap.get? p = some { cls := .none, data := .fields #[] } → (K w.params).lookup p = none := fun p hp => by
    cases e : (K w.params).lookup p with
    | none => rfl
    | some u =>
      have e1 := KX p u e
      rw [hp] at e1
      cases e1
      have := List.all_eq_true.mp ck'.1.1 _ (mem_of_look e)
      cases this
  have tinj : ∀ (nm nm' : Str) (P : Addr), TabAt ⟨K w.params, mg⟩ nm P → TabAt ⟨K w.params, mg⟩ nm' P → nm = nm' := fun nm nm' P h1 h2 => by
    obtain ⟨c, m1, _, _⟩ := all h1
    obtain ⟨c', m2, _, _⟩ := all h2
    have z := List.all_eq_true.mp (inj _ m1) _ m2
    simp only [beq_self_eq_true, Bool.not_true, Bool.false_or] at z
    exact eq_of_beq z
  by_cases hne : ∃ cs : List Addr, (∀ p ∈ cs, s₁.heap.get? p = some { cls := .none, data := .fields #[] } ∧ (K w.params).lookup p = none ∧ ∃ c, PySem.W.CodeHd s₁.heap c p) ∧ ∀ (nm : Str) (P : Addr), TabAt ⟨K w.params, mg⟩ nm P → P ∈ cs
  · obtain ⟨cs, h1, h2⟩ := hne
    exact law_callL KX G.T.g G.T.b G.T.builtins G.T.nolimit hg h1 h2 tinj G.T.bmain hobj hints (Nat.le_trans hlen hn2) hr hF' hb (hok ns hlen)
  · exfalso
    apply hne
    classical
    refine ⟨((lamTabs (K w.params)).map (·.2.2)).filter fun P => decide (∃ nm, TabAt ⟨K w.params, mg⟩ nm P), fun p hp => ?_, fun nm P hP => ?_⟩
    · rw [List.mem_filter] at hp
      obtain ⟨nm, hP⟩ := of_decide_eq_true hp.2
      obtain ⟨c, _, C, hT⟩ := all hP
      exact ⟨hT, noT p hT, c, C⟩
    · obtain ⟨c, m1, _, _⟩ := all hP
      exact List.mem_filter.mpr ⟨List.mem_map.mpr ⟨_, m1, rfl⟩, decide_eq_true ⟨nm, hP⟩⟩
end
end Fz

/-! Fz16: enumerate over a tuple. -/
namespace Fz
open PySem PySem.Spec PyProof.Rows L2
open AutoSeq1 (wpAny_loadPart')
def tIt (p : Addr) : Obj := { cls := .type "tuple_iterator", data := .fields #[.ref p, .int 0 0] }
def eOb (j : Addr) : Obj := { cls := .type "enumerate", data := .fields #[.none, .bool false, .ref j, rawInt 0, .none, .none] }
theorem en_newT (p : Addr) (ys : Array Value) (m : Nat) (dd : Option Addr) (zl : Array (Option Value)) :
    Meets (Builtin.«enumerate.__new__» ⟨[.type "enumerate", .ref p], []⟩) (fun _ R s => s.heap.get? p = some { cls := .type "tuple", dict := dd, data := .seq ys m, slots := zl } ∧
      R (.ok (.ret (.ref (s.heap.push (tIt p)).objs.size))) { s with heap := (s.heap.push (tIt p)).push (eOb s.heap.objs.size) }) :=
  .of_wp fun prog w A R s hh => by
    obtain ⟨hp, g, d, tk, os⟩ := s
    obtain ⟨hp1, hh⟩ := hh
    have sube := sub_enumerate
    have isT : Heap.IsTuple (Shared.heap ⟨hp, g, d, tk, os⟩) p ys := ⟨_, hp1, rfl, m, rfl⟩
    wp_walk using wpAny_loadPart' hp1
    refine wpAny_stack_any fun _ => wpAny_pure ?_
    split
    · rename_i cc _ _ _ _ _
      cases (cc == Value.type "enumerate")
      all_goals
        wp_walk using wpAny_loadPart' hp1, wpAny_pyIter_tuple isT
        exact ⟨_, rfl, hh⟩
    · wp_walk using wpAny_loadPart' hp1, wpAny_pyIter_tuple isT
      exact ⟨_, rfl, hh⟩
section
variable {prog : Program} {w : World} {A : Around} {E : Value → Shared → Prop} {s : Shared}
theorem call_enT {p : Addr} {ys : Array Value} {Q : Value → Shared → Prop} (isT : s.heap.IsTuple p ys)
    (k : ∀ g, IsEnum g (s.heap.objs.size + 1) s.heap.objs.size 0 .none → g.IsTupleIter s.heap.objs.size p 0 → (∀ b o, s.heap.get? b = some o → g.get? b = some o) → Q (.ref (s.heap.objs.size + 1)) { s with heap := g }) :
    wpAny (model prog w) A (call (.type "enumerate") [.ref p]) Q E s := by
  obtain ⟨⟨c, dd, dat, zl⟩, hp, hc, m, hd⟩ := isT
  obtain rfl : c = .type "tuple" := hc
  obtain rfl : dat = .seq ys m := hd
  refine callType_new F.called_enumerate (by decide) (F.typeCall_enumerate_1 _) (F.newCall_enumerate_1 _) (fun o => F.args_object_init_2 o _) F.entry_enumerate_new (en_newT p ys m dd zl) ⟨hp, ?_⟩
  have z1 : (s.heap.push (tIt p)).objs.size = s.heap.objs.size + 1 := Heap.size_push ..
  show _ ∧ _
  rw [z1]
  have e1 : IsEnum ((s.heap.push (tIt p)).push (eOb s.heap.objs.size)) (s.heap.objs.size + 1) s.heap.objs.size 0 .none := by
    have z2 := Heap.get?_push_size (s.heap.push (tIt p)) (o := eOb s.heap.objs.size) rfl
    rw [z1] at z2
    exact z2
  refine ⟨⟨_, e1, rfl⟩, k _ e1 ⟨_, Heap.get?_push_of_some _ (Heap.get?_push_size _ rfl), rfl, rfl⟩ fun b o x => Heap.get?_push_of_some _ (Heap.get?_push_of_some _ x)⟩
end
/-- the tuple at a, each item in a new pair -/
def IteT (K : PySem.W.Frag) (a : Addr) : It where
  go := fun i H => ∃ (xs : List V) (x : V), SqT K H a xs ∧ xs[i]? = some x
  yld := fun i H v H' => ∃ T x, v = .ref T ∧ H T = none ∧ H' = upd H T (.tup [.int (i : Nat), x]) ∧ ∀ xs, SqT K H a xs → xs[i]? = some x
  stop := fun i H => ∃ xs : List V, SqT K H a xs ∧ xs.length ≤ i
theorem next_enT_end {prog : Program} {w : World} {A : Around} {E : Value → Shared → Prop} {s : Shared} {e j p : Addr} {i : Nat} {c : Int} {ys : Array Value} {old : Value} {Q : Option Value → Shared → Prop} (hh : A.handled = none)
    (he : IsEnum s.heap e j c old) (hj : s.heap.IsTupleIter j p i) (isT : s.heap.IsTuple p ys) (hx : ys[i]? = none)
    (hQ : ∀ g, Heap.ExtBut j s.heap g → Q none { s with heap := g }) : wpAny (model prog w) A (pyNext (.ref e)) Q E s := by
  have ty : s.TypeIs (.ref e) "enumerate" := ⟨_, he, rfl⟩
  unfold pyNext
  refine wpAny_bind (wpAny_attempt (wpAny_callSpecial?_slot (name := Str.ofString "__next__") ty F.slot_enumerate_next (wpAny_call_entry F.slot_enumerate_next ty F.entry_enumerate_next ?_ (F.args_enumerate_next_1 _))))
  show wpAny _ _ (field (.ref e) 2 >>= _) _ _ _
  refine wpAny_bind (wpAny_field he rfl (x := .ref j) rfl (wpAny_bind (wpAny_nextOf_tuple_end hh hj isT hx fun g x e1 x1 => ?_)))
  obtain ⟨o, ho, hc⟩ := x1
  exact wpAny_bind (wpAny_isInstance (T := "StopIteration") (b := true) ⟨o, ho, hc⟩ isSubtype_stop (wpAny_pure (hQ _ e1)))
theorem turn_enT {P : Program} {w : World} {K : PySem.W.Frag} {elts : List Expr} {kk : Nat} {tpos : Pos} (a e j : Addr) :
    Turn P w K (.Tuple elts kk tpos) (IteT K a) [e, j] e (fun i h => (∃ old, IsEnum h e j ((i : Nat) : Int) old) ∧ h.IsTupleIter j a i ∧ e ≠ j) where
  mem := List.mem_cons_self
  obj := fun i h st b hb => by
    obtain ⟨⟨old, he⟩, ⟨o, ho, _, hd⟩, _⟩ := st
    rcases (show b = e ∨ b = j by simpa using hb) with rfl | rfl
    · exact ⟨_, he, fun v z => nomatch z⟩
    · exact ⟨o, ho, fun v z => by rw [hd] at z; cases z⟩
  keep := fun i h h' st kp => by
    obtain ⟨⟨old, he⟩, hj, hne⟩ := st
    exact ⟨⟨old, kp e (by simp) _ he⟩, hj.at fun o z => kp j (by simp) o z, hne⟩
  item := by
    intro X hP hw hK hc i pins s σ H E I hf st hg
    subst hP hw hK
    obtain ⟨⟨old, he⟩, hj, hne⟩ := st
    obtain ⟨xs, x, hq, hx⟩ := hg
    obtain ⟨its, rv, p, hz⟩ := I.tuple hq
    obtain ⟨u, hu, ru⟩ := rv.get hx
    have hel : e < s.heap.objs.size := Heap.lt_size he
    have hjl : j < s.heap.objs.size := by obtain ⟨_, q, _⟩ := hj; exact Heap.lt_size q
    have isT : s.heap.IsTuple a its.toArray := p
    have naj : a ≠ j := fun z => by
      obtain ⟨o, ho, hc1, _⟩ := isT
      obtain ⟨o', ho', hc2, _⟩ := hj
      rw [z, ho'] at ho
      cases ho
      rw [hc2] at hc1
      exact absurd (Value.type.inj hc1) (by decide)
    have nea : e ≠ a := fun z => by
      obtain ⟨o, ho, hc1, _⟩ := isT
      have he' := he
      unfold IsEnum at he'
      rw [z, ho] at he'
      have := congrArg Obj.cls (Option.some.inj he')
      rw [hc1] at this
      exact absurd (Value.type.inj this) (by decide)
    have D := Draws.tuple (prog := X.prog) (w := X.w) (A := X.A.in1) (I.ok.hd hc) j a naj its.toArray
    have hi : i < its.toArray.size := by
      have := (List.getElem?_eq_some_iff.mp hu).1
      simpa using this
    refine wpAny_pyNext_enum_itemD D he ⟨hj, isT⟩ hi hne (by simp [hne, nea]) fun y g tk hy ho hst hT hsz kp => ?_
    have ey : y = u := by
      rw [List.getElem?_toArray, hu] at hy
      exact (Option.some.inj hy).symm
    subst ey
    refine ⟨_, rfl, wpAny_letOwnedTupleGo_enum (s := { s with heap := g, toks := tk + 1 }) ho fun g2 he' sb => ?_⟩
    have hT2 : g2.get? s.heap.objs.size = some { cls := .type "tuple", data := .seq #[.int i tk, y] } := (sb.2 _ (Nat.ne_of_gt hel)).trans hT
    have new : ObjOk X.prog X.w (upd H s.heap.objs.size (.tup [.int (i : Nat), x])) g2 s.heap.objs.size (.tup [.int (i : Nat), x]) :=
      ⟨by show 2 ≤ sizeLine; decide, [.int i tk, y], .cons ⟨_, rfl⟩ (.cons ru .nil), ⟨_, hT2, rfl, _, rfl⟩⟩
    have I1 : Inv X pins σ (upd H s.heap.objs.size (.tup [.int (i : Nat), x])) { s with heap := g2, toks := tk + 1 } :=
      I.turnedNew (ch := [e, j]) (fun b ob hb q => (sb.2 b (fun z => hb (by simp [z]))).trans (kp b ob (fun z => hb (by simp [z])) (fun z => hb (by simp [z])) q)) hf (Nat.le_refl _) new
    refine ⟨.ref s.heap.objs.size, _, I1, rfl, ⟨_, x, rfl, I.hok.fresh (Nat.le_refl _), rfl, fun zs hzs => by rw [I.tuple_inj hzs hq]; exact hx⟩, ⟨⟨y, ?_⟩, hst.1.at fun o q => (sb.2 j (Ne.symm hne)).trans q, hne⟩, fun b hb => ?_⟩
    · rw [show ((i + 1 : Nat) : Int) = (i : Int) + 1 by omega]
      exact he'
    · have hb' : b < s.heap.objs.size := by
        rcases (show b = e ∨ b = j by simpa using hb) with rfl | rfl
        · exact hel
        · exact hjl
      rw [upd_ne (Nat.ne_of_lt hb')]
      exact (hf b hb).1
  done := by
    intro X hP hw hK hc i pins s σ H E I hf st hg
    subst hP hw hK
    obtain ⟨⟨old, he⟩, hj, hne⟩ := st
    obtain ⟨xs, hq, hx⟩ := hg
    obtain ⟨its, rv, p, hz⟩ := I.tuple hq
    have isT : s.heap.IsTuple a its.toArray := p
    obtain ⟨f0, f1, f2, f3, f4, f5⟩ := hf j (by simp)
    have hl := rv.length
    exact next_enT_end (I.ok.hd hc) he hj isT (by simp; omega) fun g eb => ⟨rfl, I.turned (t' := s.toks) (fun b o hb q => eb b o hb q) f0 f1 f3 f4 f5⟩
  self := fun A i s Q E st h => by
    obtain ⟨⟨_, he⟩, _⟩ := st
    exact wpAny_pyIter_enum he h
/-- over a list or a tuple -/
def iEnA (K : PySem.W.Frag) (ta : TA) : TI := fun σ H R => ta σ H fun vs H1 => ∃ a xs, vs = [.ref a] ∧ ((SqL K H1 a xs ∧ R (Ite K a) H1) ∨ (SqT K H1 a xs ∧ R (IteT K a) H1))
theorem pi_enA {X : Cx} {e : Expr} {ta : TA} {p pos tpos : Pos} {elts : List Expr} {kk : Nat} (hg : Gl X "enumerate") (hm : X.mg "enumerate" = none) (ha : PA X [e] ta) (hs : starEach [e] X.env = [(false, eval e X.env)] := by rfl) :
    PI X (.Tuple elts kk tpos) (.Call (.Name "enumerate" p) [e] [] pos) (iEnA X.K ta) := by
  refine ⟨fun pins s σ H R I h => ?_⟩
  refine Call_ (ld_blt I hg hm boot_enumerate (PyProof.Rows.callWith_type1 (thn (ha.run pos pins s σ H _ I h) fun us s1 hq => ?_) hs rfl))
  obtain ⟨vs, H1, I1, r1, a, xs, ex, q⟩ := hq
  subst ex
  have fresh2 : ∀ b, b ∈ [s1.heap.objs.size + 1, s1.heap.objs.size] → FpOk X pins H1 b := fun b hb => by
    have hle : s1.heap.objs.size ≤ b := by
      rcases (show b = s1.heap.objs.size + 1 ∨ b = s1.heap.objs.size by simpa using hb) with z | z <;> omega
    exact I1.fpOk hle (I1.hok.fresh hle)
  cases r1 with
  | cons r rr =>
    cases rr
    cases r
    rcases q with ⟨hq, q⟩ | ⟨hq, q⟩
    · obtain ⟨its, rv, p', hz⟩ := I1.list hq
      refine call_enumerate_list p'.isList fun g he hit hsz hk => wpAny_pyIter_enum he ?_
      have I2 : Inv X pins σ H1 { s1 with heap := g } := I1.kept (t' := s1.toks) hk
      exact ⟨s1.heap.objs.size + 1, _, _, _, H1, rfl, I2, turn_enum a (s1.heap.objs.size + 1) s1.heap.objs.size, ⟨⟨.none, he⟩, hit, Nat.succ_ne_self _⟩, fresh2, q⟩
    · obtain ⟨its, rv, p', hz⟩ := I1.tuple hq
      refine call_enT (show s1.heap.IsTuple a its.toArray from p') fun g he hit hk => wpAny_pyIter_enum he ?_
      have I2 : Inv X pins σ H1 { s1 with heap := g } := I1.kept (t' := s1.toks) hk
      exact ⟨s1.heap.objs.size + 1, _, _, _, H1, rfl, I2, turn_enT a (s1.heap.objs.size + 1) s1.heap.objs.size, ⟨⟨.none, he⟩, hit, Nat.succ_ne_self _⟩, fresh2, q⟩
def enumD (ds : List D) : List D := ds.zipIdx.map fun p => .tup [.int (p.2 : Nat), p.1]
def enA (ds : List D) (S : Sto) : R Src := match ds with
  | [.tup xs] => .ok (cSeq (enumD xs)) S
  | ds => enOf ds S
theorem enumD_get {ds : List D} (i : Nat) : (enumD ds)[i]? = ds[i]?.map fun d => .tup [.int (i : Nat), d] := by
  unfold enumD
  rw [List.getElem?_map, List.getElem?_zipIdx]
  cases ds[i]? <;> simp
section
variable {X : Cx} {W : WS} {a : Expr} {fs : As} {p pos tpos : Pos} {elts : List Expr} {kk : Nat}
theorem src_enT {G : Gm} {ι : List Addr} {H : Hp} {ds : List D} {vs : List V} {a : Addr} (h : SqT G.K H a vs) (rv : RVs G ι H ds vs) : SrcR G ι H (cSeq (enumD ds)) (IteT G.K a) := fun i ι' H' S' e r => by
  have h' := sqT_ext e.toExt0 h
  have rv' := RVs.ext e _ _ rv
  refine ⟨fun q => ⟨vs, h', ?_⟩, fun d q => ?_⟩
  · have q' : (enumD ds)[i]? = none := Option.some.inj q
    rw [enumD_get, Option.map_eq_none_iff] at q'
    rw [← rv.length]
    exact List.getElem?_eq_none_iff.mp q'
  · have q' : (enumD ds)[i]? = some d := Option.some.inj q
    rw [enumD_get] at q'
    obtain ⟨d', hd', rfl⟩ := Option.map_eq_some_iff.mp q'
    obtain ⟨v, h3, h4⟩ := rv'.get hd'
    refine ⟨⟨vs, v, h', h3⟩, fun x H2 y => ?_⟩
    obtain ⟨T, u, rfl, hT, rfl, y2⟩ := y
    have e2 : v = u := Option.some.inj (h3.symm.trans (y2 vs h'))
    subst e2
    have rvs : RVs G ι' H' [.int (i : Nat), d'] [.int (i : Nat), v] := ⟨_, _, rfl, rfl, _, _, rfl, h4, rfl⟩
    exact ⟨ext_upd hT, r.other hT, ⟨T, _, rfl, .inl (.inl upd_same), RVs.ext (ext_upd hT) _ _ rvs⟩⟩
theorem fi_enA (hm : X.mg "enumerate" = none) (ha : FA X W [a] fs) (hg : Gl X "enumerate" := by rfl) (hs : starEach [a] X.env = [(false, eval a X.env)] := by rfl) : FI X W (.Tuple elts kk tpos) (.Call (.Name "enumerate" p) [a] [] pos) (iArg enA fs) := by
  refine ⟨PI.weak (pi_enA hg hm ha.pa hs) fun σ H Q h => iarg_t (r := fun vs H1 R => ∃ a xs, vs = [.ref a] ∧ ((SqL X.K H1 a xs ∧ R (Ite X.K a) H1) ∨ (SqT X.K H1 a xs ∧ R (IteT X.K a) H1))) h fun ι H S ds vs rep rvs q => ?_⟩
  unfold enA at q
  split at q
  · rename_i xs
    obtain ⟨v, vr, rfl, r1, r2⟩ := rvs
    have e2 : vr = [] := r2
    subst e2
    obtain ⟨a, vs, rfl, h1, h2⟩ := r1
    exact ⟨a, vs, rfl, .inr ⟨h1, q _ H ι (Ext.refl _ _) rep (src_enT h1 h2)⟩⟩
  · unfold enOf at q
    split at q
    · rename_i n
      split at q
      · rename_i ds hds
        obtain ⟨v, vr, rfl, r1, r2⟩ := rvs
        have e2 : vr = [] := r2
        subst e2
        obtain ⟨a, h1, rfl⟩ := r1
        obtain ⟨vs, h2, h3⟩ := rep.cell _ _ a hds h1
        exact ⟨a, vs, rfl, .inl ⟨.of h2, q _ H ι (Ext.refl _ _) rep (src_en h1)⟩⟩
      · exact q.elim
    · exact q.elim
end
end Fz

/-! Fz17: defs that hand on a lambda, by their names; the lambda's table. -/
namespace Fz
open PySem PySem.Spec PyProof.Rows L2 LamX NdefX
/-- the table of the code object at v -/
def tabOfK (K : PySem.W.Frag) (v : Value) : Option Addr := match v with
  | .ref c => (match K.lookup c with
    | some ⟨.type "code", _, .fields vs, _⟩ => (match (vs[11]? : Option Value), vs.getD 11 .none, vs.getD 18 .none, vs.getD 7 .none, vs.getD 9 .none, vs.getD 10 .none with
      | some (Value.ref P), Value.ref P', .str _ _, .int _ _, .bool _, .int _ _ => if P = P' ∧ c ≠ P then some P else none
      | _, _, _, _, _, _ => none)
    | _ => none)
  | _ => none
section
variable {K : PySem.W.Frag} {mg : Str → Option Value} {base : Heap} {Pg : Program} {w : World}
theorem tabAt_of {nm : Str} {st : Stmt} {f P : Addr} {oc : Value} {od an : Option Addr} {osl : Array (Option Value)} {dV kV doc pm cdv ct : Value} {h : Heap} (X : K.In h) (G : h.Ns mainGlobals mg) (a : PySem.W.nsIn K mainGlobals nm = some (some (.ref f)))
    (l : K.lookup f = some ⟨oc, od, .func (PySem.W.fnOf nm nm (defArgs st) (defBody st) (defScope st) dV kV doc pm an cdv ct), osl⟩) (ht : tabOfK K cdv = some P) (hl : (lamOf (defBody st)).isSome = true) : ∃ P, TabAt ⟨K, mg⟩ nm P := by
  unfold tabOfK at ht
  split at ht
  · rename_i c
    split at ht
    · rename_i dd us zl hc
      split at ht
      · rename_i y1 y2 y3 y4 y5 y6
        split at ht
        · rename_i hP
          cases ht
          obtain ⟨e0, hne⟩ := hP
          rw [← e0] at y2
          refine ⟨P, f, c, oc, od, osl, _, _, PySem.W.mg_of X G a, l, rfl, rfl, rfl, hl, fun h' X' => ?_⟩
          exact ⟨_, us, _, _, _, _, _, _, _, X' c _ hc, rfl, rfl, y1, y2, y3, y4, y5, y6, hne⟩
        · cases ht
      · cases ht
    · cases ht
  · cases ht
theorem has_ofL {k : Nat} {x nm : Str} {st : Stmt} {dds : List D} {N ps : List Str} {fb : Sm} (a : At K mg x nm st dds) (Sc : FnScope N ps (defScope st))
    (hbody : ∀ (f : Addr) (oc : Value) (od : Option Addr) (dV kV doc pm : Value) (an : Option Addr) (cdv ct : Value) (osl : Array (Option Value)), mg x = some (.ref f) → K.lookup f = some ⟨oc, od, .func (PySem.W.fnOf nm nm (defArgs st) (defBody st) (defScope st) dV kV doc pm an cdv ct), osl⟩ →
      ∀ (A : Around) (outer : List Env) (s : Shared) (H : Hp) (E : XK), A.guards = some [] → Room k (A.deeper (envOfC nm (defScope st) s.heap.objs.size f cdv)) →
      FSs (cxOf (L2.CX Pg w) Pg w K mg base N nm (defScope st) f cdv A outer s H E) (fun c d _ H' => E c d H') (defBody st) fb) : Has Pg w K mg base (k + 1) x nm st dds ps (defF ps.length N.length fb) := by
  obtain ⟨f, fd, dV, F, dd, hm⟩ := a
  refine ⟨f, fd, dV, F, dd, hm, ?_⟩
  obtain ⟨oc, od, kV, doc, pm, an, cdv, ct, osl, rfl, lk, hcd⟩ := F.ex
  exact fng_of lk hcd Sc fun A outer s H E gd hr => hbody f oc od dV kV doc pm an cdv ct osl hm lk A outer s H E gd hr
/-- what its lambda does -/
theorem lamg_at {k : Nat} {nm : Str} {st : Stmt} {dds : List D} {pr : Arguments} {b : Expr} {sc : Scope} {ps : List Str} {fe : E} (a : At K mg nm nm st dds) (hl : lamOf (defBody st) = some (pr, b, sc)) (Sc : NScope ps ps [] sc)
    (hbind : ∀ (pm cv ctv : Value) (us : List Value), us.length = ps.length → bindArgs (PySem.W.kla_fn "<lambda>" (lamQ nm) pr b sc [] pm cv ctv) ⟨us, []⟩ = pure (ps.zip us))
    (hbody : ∀ (A : Around) (outer : List Env) (s : Shared) (H : Hp) (E : XK) (f c' : Addr), A.guards = some [] → Room k (A.deeper (envF (lamF (lamQ nm) pr sc c') f s.heap.objs.size)) → Takes (ncx (L2.CX Pg w) Pg w K mg base ps (lamF (lamQ nm) pr sc c') f A outer s H E) (fun c d _ H' => E c d H') →
      FE (ncx (L2.CX Pg w) Pg w K mg base ps (lamF (lamQ nm) pr sc c') f A outer s H E) (fun c d _ H' => E c d H') b fe) : LamG Pg w K mg base (k + 1) nm ps.length (defF ps.length ps.length (sRet fe)) := by
  obtain ⟨f, fd, dV, F, dd, hm⟩ := a
  obtain ⟨oc, od, kV, doc, pm, an, cdv, ct, osl, rfl, lk, hcd⟩ := F.ex
  exact lamg_of hm lk rfl hl Sc hbind fun A outer s H E f c' gd hr => hbody A outer s H E f c' gd hr (takes_of rfl rfl rfl rfl)
end
end Fz
namespace Fz
open PySem PySem.Spec PyProof.Rows L2
/-- all lambdas that a local name may hold -/
def LamAll (P : Program) (w : World) (K : PySem.W.Frag) (mg : Str → Option Value) (base : Heap) (k : Nat) (tb : LTab) : Prop := ∀ nm np F, tb.lookup nm = some (np, F) → LamG P w K mg base k nm np F
section
variable {P : Program} {w : World} {K : PySem.W.Frag} {mg : Str → Option Value} {base : Heap} {k : Nat}
theorem LamAll.nil : LamAll P w K mg base k [] := fun _ _ _ h => nomatch h
theorem LamAll.cons {j np : Nat} {nm : Str} {F : Fn} {tb : LTab} (h : LamG P w K mg base j nm np F) (le : j ≤ k) (t : LamAll P w K mg base k tb) : LamAll P w K mg base k ((nm, np, F) :: tb) := fun nm' np' F' e => by
  rw [List.lookup_cons] at e
  split at e
  · rename_i q
    have z := eq_of_beq q
    subst z
    cases e
    exact h.mono le
  · exact t nm' np' F' e
end
section
variable {X : Cx} {W : WS} {k i : Nat} {tb : LTab} {x : Str} {p pos : Pos} {e : Expr} {es : List Expr} {fs : As}
theorem fe_calllA (hA : LamAll X.prog X.w X.K X.mg X.base k tb) (hgd : X.A.guards = some []) (hr : Room k X.A) (tk : Takes X W) (i : Nat) (ha : FA X W (e :: es) fs) (hN : X.N[i]? = some x := by rfl)
    (hv : Vis X.env.scope x := by first | exact Or.inl rfl | exact Or.inr (Or.inl rfl) | exact Or.inr (Or.inr rfl)) (hdb : (x == ("__debug__" : Str)) = false := by decide) (hcd : (x == ("__classdict__" : Str)) = false := by decide)
    (he : starEach (e :: es) X.env = (false, eval e X.env) :: starEach es X.env := by rfl) (hpl : (backTo pos (starEach es X.env)).any (·.1) = false := by rfl) : FE X W (.Call (.Name x p) (e :: es) [] pos) (eCallL tb i fs) :=
  fe_calll hA hgd hr tk i ha hN hv hdb hcd he hpl
end
end Fz

/-! Fz18: t[::-1] of a tuple. -/
namespace Fz
open PySem PySem.Spec PyProof.Rows L2 HT
section
variable {prog : Program} {w : World} {A : Around} {E : Value → Shared → Prop} {s : Shared}
theorem revApplied {j : Addr} {vs : Value} {n : Nat} {Q : Int × Int × Nat → Shared → Prop} (hs : s.heap.IsSliceOf j .none .none vs) (ps : IsPart vs (some (-1)))
    (h : Q ((n : Int) - 1, -1, n) s) : wpAny (model prog w) A (Builtin.Slice.sliceApplied (.ref j) (pure (n : Int))) Q E s := by
  obtain ⟨o, ho, hc, hd⟩ := id hs
  unfold Builtin.Slice.sliceApplied Builtin.Slice.sliceFields
  refine wpAny_bind (wpAny_bind (wpAny_field ho hd (x := .none) rfl (wpAny_bind (wpAny_field ho hd (x := .none) rfl (wpAny_bind (wpAny_field ho hd (x := vs) rfl (wpAny_pure ?_)))))))
  refine wpAny_bind (slicePart_ ps ?_)
  show wpAny _ _ (if ((-1 : Int) == 0) = true then _ else _) _ _ s
  rw [if_neg (by decide)]
  refine wpAny_bind (slicePart_none (wpAny_bind (slicePart_none (wpAny_bind (wpAny_pure ?_)))))
  show wpAny _ _ (pure ((n : Int) - 1, (-1 : Int), Builtin.Slice.slicePlaces ((n : Int) - 1) (-1) (-1))) _ _ s
  have e : Builtin.Slice.slicePlaces ((n : Int) - 1) (-1) (-1) = n := by
    unfold Builtin.Slice.slicePlaces
    rw [if_neg (by omega)]
    split
    · rw [show ((n : Int) - 1 - -1 - 1) / - -1 + 1 = n by simp]; simp
    · omega
  rw [e]
  exact wpAny_pure h
theorem fm_congr {α β : Type} {f g : α → Option β} : ∀ l : List α, (∀ m ∈ l, f m = g m) → l.filterMap f = l.filterMap g
  | [], _ => rfl
  | a :: l, h => by rw [List.filterMap_cons, List.filterMap_cons, h a List.mem_cons_self, fm_congr l fun m hm => h m (List.mem_cons_of_mem _ hm)]
theorem pick_back (xs : Array Value) : ((List.range xs.size).filterMap fun (m : Nat) => xs[(((xs.size : Int) - 1) + (m : Int) * (-1)).toNat]?).toArray = xs.toList.reverse.toArray := by
  congr 1
  have e : ∀ m ∈ List.range xs.size, xs[(((xs.size : Int) - 1) + (m : Int) * (-1)).toNat]? = xs[xs.size - 1 - m]? := fun m hm => by
    have := List.mem_range.mp hm
    congr 1
    omega
  have e1 : (List.range xs.size).filterMap (fun (m : Nat) => xs[(((xs.size : Int) - 1) + (m : Int) * (-1)).toNat]?) = ((List.range xs.size).map fun k => xs.size - 1 - k).filterMap (xs[·]?) := by
    rw [List.filterMap_map]
    exact fm_congr _ e
  rw [e1, PySem.W.krv_range, List.filterMap_reverse]
  congr 1
  have key : ∀ n, n ≤ xs.size → (List.range n).filterMap (xs[·]?) = xs.toList.take n := by
    intro n
    induction n with
    | zero => intro _; rfl
    | succ n ih =>
      intro hn
      rw [List.range_succ, List.filterMap_append, ih (by omega), List.take_add_one]
      congr 1
      simp [show n < xs.size by omega]
  rw [key _ (Nat.le_refl _)]
  exact List.take_of_length_le (by simp)
theorem getItem_tuple_back {t j : Addr} {xs : Array Value} {vs : Value} {Q : Value → Shared → Prop} (ht : IsTup s.heap t xs) (hs : s.heap.IsSliceOf j .none .none vs) (ps : IsPart vs (some (-1)))
    (h : Q (.ref s.heap.objs.size) { s with heap := s.heap.push { cls := .type "tuple", data := .seq xs.toList.reverse.toArray } }) (hsz : xs.size ≤ sizeLine) : wpAny (model prog w) A (getItem (.ref t) (.ref j)) Q E s := by
  have hfit : sizeOk (.seq xs.toList.reverse.toArray) := by
    show xs.toList.reverse.toArray.size ≤ sizeLine
    simpa using hsz
  obtain ⟨o, ho, hc, hd⟩ := id hs
  have tyS : s.TypeIs (.ref j) "slice" := ⟨o, ho, hc⟩
  unfold getItem
  try with_reducible refine wpAny_holding ?_
  first | refine wpAny_bind (wpAny_pure ?_) | skip
  refine wpAny_bind (wpAny_sequenceKey ht.typeIs (by decide) (wpAny_bind (wpAny_callSpecial?_slot (name := Str.ofString "__getitem__") ht.typeIs PyProof.Rows.slot_tuple_getitem (wpAny_call_entry PyProof.Rows.slot_tuple_getitem ht.typeIs entry_tuple_getitem ?_ (args_tuple_getitem _ _)))))
  show wpAny _ _ (Builtin.Tuple.tupleItemsOf (.ref t) >>= _) _ _ s
  refine wpAny_bind (tupleItemsOf_ ht (wpAny_bind (wpAny_typeOf tyS ?_)))
  rw [if_pos (by decide)]
  refine wpAny_bind (revApplied hs ps ?_)
  have hno : ¬ ((((xs.size : Int) - 1) == 0 && (-1 : Int) == 1 && xs.size == xs.size) = true) := by
    rw [show ((-1 : Int) == 1) = false from rfl, Bool.and_false, Bool.false_and]
    exact Bool.false_ne_true
  show wpAny _ _ (if (((xs.size : Int) - 1) == 0 && (-1 : Int) == 1 && xs.size == xs.size) = true then _ else _) _ _ s
  rw [if_neg hno, pick_back]
  first
    | exact wpAny_bind (m := Builtin.Tuple.tupleExact _) (wpAny_newObj_type (wpAny_pure ⟨_, rfl, wpAny_pure h⟩) hfit)
    | exact wpAny_bind (m := Builtin.Tuple.tupleExact _) (wpAny_newObj_type (wpAny_bind (wpAny_pure (wpAny_pure ⟨_, rfl, wpAny_pure h⟩))) hfit)
    | exact wpAny_bind (wpAny_bind (m := Builtin.Tuple.tupleExact _) (wpAny_newObj_type (wpAny_pure (wpAny_pure ⟨_, rfl, wpAny_pure h⟩)) hfit))
    | exact wpAny_bind (wpAny_bind (m := Builtin.Tuple.tupleExact _) (wpAny_newObj_type (wpAny_pure ⟨_, rfl, wpAny_pure h⟩) hfit))
end
section
variable {X : Cx} {W : WS} {e : Expr} {te : TE} {f : E} {k : Nat} {p1 p2 p3 pos : Pos}
def tRevT (K : PySem.W.Frag) (te : TE) : TE := fun σ H Q => te σ H fun x H1 => ∃ a xs, x = .ref a ∧ SqT K H1 a xs ∧ ∀ p, H1 p = none → Q (.ref p) (upd H1 p (.tup xs.reverse))
theorem pe_revT (he : PE X e te) : PE X (.Subscript e (.Slice none none (some (.UnaryOp .USub (.Constant (.int 1) k p1) p2)) p3) pos) (tRevT X.K te) := by
  constructor
  intro pins s σ H Q I h
  apply Subscript_
  refine thn (he.run pins s σ H _ I h) fun v s1 hq => ?_
  obtain ⟨x, H1, I1, r1, a, xs, ex, hx, q⟩ := hq
  subst ex
  obtain rfl : v = Value.ref a := r1
  have step : PO X (some (.UnaryOp .USub (.Constant (.int 1) k p1) p2)) (tPart (tUn (rU fun i => .int (-i)) (tC (.int 1)))) := po_some (pe_un un_neg pe_int)
  apply wpAny_Slice
  refine thn (po_none.run pins s1 σ H1 (fun o H2 => o = none ∧ H2 = H1) I1 ⟨rfl, rfl⟩) fun vl s2 hq => ?_
  obtain ⟨l, H2, I2, pl, el, e2⟩ := hq
  subst el e2
  refine thn (po_none.run pins s2 σ H2 (fun o H3 => o = none ∧ H3 = H2) I2 ⟨rfl, rfl⟩) fun vu s3 hq => ?_
  obtain ⟨u, H3, I3, pu, eu, e3⟩ := hq
  subst eu e3
  refine thn (step.run pins s3 σ H3 (fun o H4 => o = some (-1) ∧ H4 = H3) I3 ⟨1, rfl, -1, rfl, rfl, rfl⟩) fun vs s4 hq => ?_
  obtain ⟨o, H4, I4, ps, eo, e4⟩ := hq
  subst eo e4
  cases pl
  cases pu
  have J : Inv X pins σ H4 { s4 with heap := s4.heap.push { cls := .type "slice", data := .fields #[.none, .none, vs] } } :=
    I4.kept (t' := s4.toks) fun b ob q => Heap.get?_push_of_some _ q
  obtain ⟨its, r, ht, hz⟩ := J.tuple hx
  have hlen := r.length
  refine tail_any (ops := [.ref a, .ref s4.heap.objs.size]) ht.typeIs PyProof.Rows.slot_tuple_getitem.lookup ?_ (by with_unfolding_all rfl)
  refine getItem_tuple_back ht (Heap.IsSliceOf.new _ .none .none vs) ps ?_ (by rw [List.size_toArray]; omega)
  refine ⟨.ref _, _, J.laid (t' := s4.toks) (o := .tup xs.reverse) (fun b ob q => Heap.get?_push_of_some _ q) (Nat.le_refl _) ?_, rfl, q _ (J.hok.fresh (Nat.le_refl _))⟩
  exact ⟨by rw [List.length_reverse]; exact hz, its.reverse, r.reverse, by have := IsTup.new (Heap.push s4.heap { cls := .type "slice", data := .fields #[.none, .none, vs] }) its.reverse.toArray; simpa using this⟩
/-- of any of them -/
def vRevA (d : D) (S : Sto) : R D := match d with
  | .tup ds => .ok (.tup ds.reverse) S
  | d => vRev d S
theorem fe_revA (he : FE X W e f) : FE X W (.Subscript e (.Slice none none (some (.UnaryOp .USub (.Constant (.int 1) k p1) p2)) p3) pos) (e1 vRevA f) := by
  refine ⟨PE.weak (Fz.PE.or (fe_rev he).pe (pe_revT he.pe)) fun σ H Q h => ?_⟩
  obtain ⟨ι, env, S, rep, er, p⟩ := h
  have p0 : Post (gm X) (RV (gm X)) (fun c d H' => W c d σ H') ι H ((f env S).bind vRevA) Q := p
  cases hf : f env S with
  | stuck => rw [hf] at p0; exact p0.elim
  | exc C fs S' => exact .inl ⟨ι, env, S, rep, er, by unfold e1; rw [hf] at p0 ⊢; exact p0⟩
  | ok d S' =>
    by_cases hs : ∃ ds, d = .tup ds
    · obtain ⟨ds, rfl⟩ := hs
      refine .inr ⟨ι, env, S, rep, er, ?_⟩
      rw [hf] at p0 ⊢
      intro v H1 ι1 e1 r1 rv
      obtain ⟨a, vs, rfl, h1, h2⟩ := rv
      exact ⟨a, vs, rfl, h1, fun q hq => p0 _ _ ι1 (e1.trans (ext_upd hq)) (r1.other hq) ⟨q, _, rfl, .inl (.inl upd_same), RVs.ext (ext_upd hq) _ _ h2.reverse⟩⟩
    · refine .inl ⟨ι, env, S, rep, er, ?_⟩
      have e2 : vRevA d S' = vRev d S' := by
        unfold vRevA
        split
        · exact absurd ⟨_, rfl⟩ hs
        · rfl
      unfold e1
      rw [hf] at p0 ⊢
      show Post _ _ _ _ _ (vRev d S') _
      rw [← e2]
      exact p0
end
/-! ### math.lcm -/
namespace Lcm
def vLcm : List D → Sto → R D
  | [.int i, .int j], S => if i.natAbs < 2 ^ 64 ∧ j.natAbs < 2 ^ 64 then .ok (.int ((Nat.lcm i.natAbs j.natAbs : Nat) : Int)) S else .stuck
  | _, _ => .stuck
def rLcm : List V → Hp → VK → Prop := fun vs H Q => ∃ a b : Int, vs = [.int a, .int b] ∧ a.natAbs < 2 ^ 64 ∧ b.natAbs < 2 ^ 64 ∧ Q (.int ((Nat.lcm a.natAbs b.natAbs : Nat) : Int)) H
theorem cr_lcm {X : Cx} : CallR X (.builtin "math.lcm") rLcm := by
  intro pins s σ H vs us Q I r h
  obtain ⟨a, b, rfl, h1, h2, q⟩ := h
  obtain ⟨t, u, rfl⟩ := Vals.int2 r
  exact PySem.W.mc_lcm h1 h2 fun _ => ⟨.int _, H, I.tok _, ⟨_, rfl⟩, q⟩
theorem v_lcm {G : Gm} : VN G vLcm rLcm := by
  intro W ι H S ds vs Q rep rvs p
  unfold vLcm at p
  split at p
  · split at p
    · rename_i hc
      obtain ⟨v, u, rfl, r, r2⟩ := args2 rvs
      obtain rfl : v = .int _ := r
      obtain rfl : u = .int _ := r2
      exact ⟨_, _, rfl, hc.1, hc.2, p _ H ι (Ext.refl _ _) rep rfl⟩
    · exact p.elim
  · exact p.elim
end Lcm
end Fz

/-! Gz1: values with lists as values; slots that own a cell; how a run over them is met by one over the store. -/
namespace Fz
open PySem PySem.Spec PyProof.Rows L2

inductive Sl where
  | no | vl (w : D) | ow (c : Cell)
abbrev Gn := List Sl
inductive RG (α : Type) where
  | ok (a : α) (γ : Gn) | exc (C : Str) (fs : List (Str × D)) (γ : Gn) | stuck
def RG.bind {α β : Type} (r : RG α) (k : α → Gn → RG β) : RG β := match r with
  | .ok a γ => k a γ
  | .exc C fs γ => .exc C fs γ
  | .stuck => .stuck
/-- P: cells that values may name; A: cells that slots own -/
structure Wd where
  P : Nat → Prop
  A : Nat → Prop
  T : Sto
structure Wd.Ok (σ : Wd) : Prop where
  dis : ∀ n, σ.P n → ¬ σ.A n
  bP : ∀ n, σ.P n → n < σ.T.length
  bA : ∀ n, σ.A n → n < σ.T.length
mutual
def Rw (σ : Wd) : D → D → Prop
  | .non, d => d = .non
  | .bl b, d => d = .bl b
  | .int i, d => d = .int i
  | .str x, d => d = .str x
  | .tup ws, d => ∃ ds, d = .tup ds ∧ Rws σ ws ds
  | .frl ws, d => ∃ ds, d = .frl ds ∧ Rws σ ws ds
  | .ref _, _ => False
  | .fn x, d => d = .fn x
  | .lam q, d => d = .lam q
  | .lsv ws, d => ∃ n ds, d = .ref n ∧ σ.P n ∧ σ.T[n]? = some (.lst ds) ∧ Rws σ ws ds
  | .dct ks ws, d => ∃ n kvs, d = .ref n ∧ σ.P n ∧ σ.T[n]? = some (.dk kvs) ∧ kvs.map (·.1) = ks ∧ Rws σ ws (kvs.map (·.2))
def Rws (σ : Wd) : List D → List D → Prop
  | [], ds => ds = []
  | w :: ws, ds => ∃ d dr, ds = d :: dr ∧ Rw σ w d ∧ Rws σ ws dr
end
def Rc (σ : Wd) : Cell → Cell → Prop
  | .lst ws, c => ∃ ds, c = .lst ds ∧ Rws σ ws ds
  | .dk kws, c => ∃ kvs, c = .dk kvs ∧ kvs.map (·.1) = kws.map (·.1) ∧ Rws σ (kws.map (·.2)) (kvs.map (·.2))
structure Le (σ σ' : Wd) : Prop where
  ln : σ.T.length ≤ σ'.T.length
  pp : ∀ n, σ.P n → σ'.P n
  pn : ∀ n, σ'.P n → σ.P n ∨ σ.A n ∨ σ.T.length ≤ n
  an : ∀ n, σ'.A n → σ.A n ∨ σ.T.length ≤ n
  kp : ∀ n, n < σ.T.length → ¬ σ.A n → σ'.T[n]? = σ.T[n]?
theorem Le.refl (σ : Wd) : Le σ σ := ⟨Nat.le_refl _, fun _ h => h, fun _ h => .inl h, fun _ h => .inl h, fun _ _ _ => rfl⟩
theorem Le.trans {σ σ1 σ2 : Wd} (a : Le σ σ1) (b : Le σ1 σ2) : Le σ σ2 :=
  ⟨Nat.le_trans a.ln b.ln, fun n h => b.pp n (a.pp n h), fun n h => by
    rcases b.pn n h with q | q | q
    · exact a.pn n q
    · exact .inr (a.an n q)
    · exact .inr (.inr (Nat.le_trans a.ln q)), fun n h => by
    rcases b.an n h with q | q
    · exact a.an n q
    · exact .inr (Nat.le_trans a.ln q), fun n h1 h2 => by
    rw [b.kp n (Nat.lt_of_lt_of_le h1 a.ln) fun q => (a.an n q).elim h2 fun z => by omega, a.kp n h1 h2]⟩
/-- what values of σ may name is there as it was -/
structure Sub (σ σ' : Wd) : Prop where
  pp : ∀ n, σ.P n → σ'.P n
  kp : ∀ n, σ.P n → σ'.T[n]? = σ.T[n]?
theorem Le.sub {σ σ' : Wd} (h : Le σ σ') (o : σ.Ok) : Sub σ σ' := ⟨h.pp, fun n p => h.kp n (o.bP n p) (o.dis n p)⟩
section
variable {σ σ' : Wd}
mutual
theorem Rw.sub (s : Sub σ σ') : ∀ (w d : D), Rw σ w d → Rw σ' w d
  | .non, d, h => h
  | .bl b, d, h => h
  | .int i, d, h => h
  | .str x, d, h => h
  | .tup ws, d, h => by obtain ⟨ds, h1, h2⟩ := h; exact ⟨ds, h1, Rws.sub s ws ds h2⟩
  | .frl ws, d, h => by obtain ⟨ds, h1, h2⟩ := h; exact ⟨ds, h1, Rws.sub s ws ds h2⟩
  | .ref _, _, h => h.elim
  | .fn x, d, h => h
  | .lam _, d, h => h
  | .lsv ws, d, h => by obtain ⟨n, ds, h1, h2, h3, h4⟩ := h; exact ⟨n, ds, h1, s.pp n h2, (s.kp n h2).trans h3, Rws.sub s ws ds h4⟩
  | .dct ks ws, d, h => by obtain ⟨n, ds, h1, h2, h3, h4, h5⟩ := h; exact ⟨n, ds, h1, s.pp n h2, (s.kp n h2).trans h3, h4, Rws.sub s ws _ h5⟩
theorem Rws.sub (s : Sub σ σ') : ∀ (ws ds : List D), Rws σ ws ds → Rws σ' ws ds
  | [], ds, h => h
  | w :: ws, ds, h => by obtain ⟨d, dr, h1, h2, h3⟩ := h; exact ⟨d, dr, h1, Rw.sub s w d h2, Rws.sub s ws dr h3⟩
end
theorem Rc.sub (s : Sub σ σ') : ∀ {c d : Cell}, Rc σ c d → Rc σ' c d
  | .lst ws, d, h => by obtain ⟨ds, h1, h2⟩ := h; exact ⟨ds, h1, Rws.sub s ws ds h2⟩
  | .dk ws, d, h => by obtain ⟨ds, h1, h2, h3⟩ := h; exact ⟨ds, h1, h2, Rws.sub s _ _ h3⟩
theorem Rws.length : ∀ {ws ds : List D}, Rws σ ws ds → ws.length = ds.length
  | [], ds, h => by have e : ds = [] := h; subst e; rfl
  | w :: ws, ds, h => by obtain ⟨d, dr, rfl, _, h3⟩ := h; exact congrArg (· + 1) (Rws.length h3)
theorem Rws.get : ∀ {ws ds : List D} {i : Nat} {w : D}, Rws σ ws ds → ws[i]? = some w → ∃ d, ds[i]? = some d ∧ Rw σ w d
  | [], ds, i, w, h, e => by simp at e
  | w :: ws, ds, 0, w', h, e => by obtain ⟨d, dr, rfl, h1, h2⟩ := h; simp at e; subst e; exact ⟨d, rfl, h1⟩
  | w :: ws, ds, i + 1, w', h, e => by
    obtain ⟨d, dr, rfl, h1, h2⟩ := h
    obtain ⟨u, h3, h4⟩ := Rws.get (i := i) h2 (by simpa using e)
    exact ⟨u, by simpa using h3, h4⟩
theorem Rws.getN : ∀ {ws ds : List D} {i : Nat}, Rws σ ws ds → ws[i]? = none → ds[i]? = none := fun {ws ds i} h e => by
  rw [List.getElem?_eq_none_iff] at e ⊢; rw [← h.length]; exact e
theorem Rws.append : ∀ {ws ds us es : List D}, Rws σ ws ds → Rws σ us es → Rws σ (ws ++ us) (ds ++ es)
  | [], ds, us, es, h, h' => by have e : ds = [] := h; subst e; exact h'
  | w :: ws, ds, us, es, h, h' => by obtain ⟨d, dr, rfl, h1, h2⟩ := h; exact ⟨d, dr ++ es, rfl, h1, Rws.append h2 h'⟩
theorem Rws.set : ∀ {ws ds : List D} {w d : D} (i : Nat), Rws σ ws ds → Rw σ w d → Rws σ (ws.set i w) (ds.set i d)
  | [], ds, w, d, i, h, r => by have e : ds = [] := h; subst e; cases i <;> exact rfl
  | w' :: ws, ds, w, d, 0, h, r => by obtain ⟨d', dr, rfl, h1, h2⟩ := h; exact ⟨d, dr, rfl, r, h2⟩
  | w' :: ws, ds, w, d, i + 1, h, r => by obtain ⟨d', dr, rfl, h1, h2⟩ := h; exact ⟨d', dr.set i d, rfl, h1, Rws.set i h2 r⟩
theorem Rws.take : ∀ {ws ds : List D} (n : Nat), Rws σ ws ds → Rws σ (ws.take n) (ds.take n)
  | ws, ds, 0, h => by simp; exact rfl
  | [], ds, n + 1, h => by have e : ds = [] := h; subst e; exact rfl
  | w :: ws, ds, n + 1, h => by obtain ⟨d, dr, rfl, h1, h2⟩ := h; exact ⟨d, dr.take n, rfl, h1, Rws.take n h2⟩
theorem Rws.drop : ∀ {ws ds : List D} (n : Nat), Rws σ ws ds → Rws σ (ws.drop n) (ds.drop n)
  | ws, ds, 0, h => h
  | [], ds, n + 1, h => by have e : ds = [] := h; subst e; exact rfl
  | w :: ws, ds, n + 1, h => by obtain ⟨d, dr, rfl, h1, h2⟩ := h; exact Rws.drop n h2
theorem Rws.one {w d : D} (h : Rw σ w d) : Rws σ [w] [d] := ⟨d, [], rfl, h, rfl⟩
theorem Rws.reverse : ∀ {ws ds : List D}, Rws σ ws ds → Rws σ ws.reverse ds.reverse
  | [], ds, h => by have e : ds = [] := h; subst e; exact rfl
  | w :: ws, ds, h => by obtain ⟨d, dr, rfl, h1, h2⟩ := h; rw [List.reverse_cons, List.reverse_cons]; exact Rws.append (Rws.reverse h2) (Rws.one h1)
theorem Rws.empty {ws ds : List D} (h : Rws σ ws ds) : ws.isEmpty = ds.isEmpty := by have := h.length; cases ws <;> cases ds <;> simp_all
theorem Rws.mem : ∀ {ws ds : List D} {d : D}, Rws σ ws ds → d ∈ ds → ∃ w ∈ ws, Rw σ w d
  | [], ds, d, h, e => by have q : ds = [] := h; subst q; cases e
  | w :: ws, ds, d, h, e => by
    obtain ⟨d', dr, rfl, h1, h2⟩ := h
    rcases List.mem_cons.mp e with rfl | e
    · exact ⟨w, List.mem_cons_self, h1⟩
    · obtain ⟨u, h3, h4⟩ := Rws.mem h2 e; exact ⟨u, List.mem_cons_of_mem _ h3, h4⟩
end
mutual
theorem noRef_mono {m n : Nat} (h : m ≤ n) : ∀ {d : D}, noRef m d = true → noRef n d = true
  | .ref k, e => by simp only [noRef, decide_eq_true_eq] at e ⊢; omega
  | .tup ds, e => noRefs_mono h e
  | .frl ds, e => noRefs_mono h e
  | .non, _ => rfl
  | .bl _, _ => rfl
  | .int _, _ => rfl
  | .str _, _ => rfl
  | .fn _, _ => rfl
  | .lam _, _ => rfl
  | .lsv _, _ => rfl
  | .dct _ _, _ => rfl
theorem noRefs_mono {m n : Nat} (h : m ≤ n) : ∀ {ds : List D}, noRef.noRefs m ds = true → noRef.noRefs n ds = true
  | [], _ => rfl
  | d :: ds, e => by
    simp only [noRef.noRefs, Bool.and_eq_true] at e ⊢
    exact ⟨noRef_mono h e.1, noRefs_mono h e.2⟩
end
mutual
theorem Rw.noRef {σ : Wd} (o : σ.Ok) : ∀ (w d : D), Rw σ w d → Fz.noRef σ.T.length d = true
  | .non, d, h => by have e : d = .non := h; subst e; rfl
  | .bl b, d, h => by have e : d = .bl b := h; subst e; rfl
  | .int i, d, h => by have e : d = .int i := h; subst e; rfl
  | .str x, d, h => by have e : d = .str x := h; subst e; rfl
  | .tup ws, d, h => by obtain ⟨ds, rfl, h2⟩ := h; exact Rws.noRefs o ws ds h2
  | .frl ws, d, h => by obtain ⟨ds, rfl, h2⟩ := h; exact Rws.noRefs o ws ds h2
  | .ref _, _, h => h.elim
  | .fn x, d, h => by have e : d = .fn x := h; subst e; rfl
  | .lam q, d, h => by have e : d = .lam q := h; subst e; rfl
  | .lsv ws, d, h => by obtain ⟨n, ds, rfl, h2, _⟩ := h; simp only [Fz.noRef, decide_eq_true_eq]; exact o.bP n h2
  | .dct ks ws, d, h => by obtain ⟨n, ds, rfl, h2, _⟩ := h; simp only [Fz.noRef, decide_eq_true_eq]; exact o.bP n h2
theorem Rws.noRefs {σ : Wd} (o : σ.Ok) : ∀ (ws ds : List D), Rws σ ws ds → Fz.noRef.noRefs σ.T.length ds = true
  | [], ds, h => by have e : ds = [] := h; subst e; rfl
  | w :: ws, ds, h => by
    obtain ⟨d, dr, rfl, h1, h2⟩ := h
    simp only [Fz.noRef.noRefs, Bool.and_eq_true]
    exact ⟨Rw.noRef o w d h1, Rws.noRefs o ws dr h2⟩
end
structure Rel (σ : Wd) (env : EnvD) (γ : Gn) : Prop where
  ok : σ.Ok
  len : env.length = γ.length
  vl : ∀ (i : Nat) (w : D), γ[i]? = some (.vl w) → ∃ d, env[i]? = some (some d) ∧ Rw σ w d
  ow : ∀ (i : Nat) (c : Cell), γ[i]? = some (.ow c) → ∃ n c', env[i]? = some (some (.ref n)) ∧ σ.A n ∧ σ.T[n]? = some c' ∧ Rc σ c c'
  inj : ∀ (i j : Nat) (c c' : Cell) (n : Nat), γ[i]? = some (.ow c) → γ[j]? = some (.ow c') → env[i]? = some (some (.ref n)) → env[j]? = some (some (.ref n)) → i = j
  bE : ∀ (i : Nat) (d : D), env[i]? = some (some d) → noRef σ.T.length d = true
/-- the same slots, more cells -/
structure Le0 (σ σ' : Wd) : Prop extends Le σ σ' where
  ok : σ'.Ok
  aa : ∀ n, σ.A n → σ'.A n
  ka : ∀ n, n < σ.T.length → σ'.T[n]? = σ.T[n]?
theorem Le0.refl {σ : Wd} (o : σ.Ok) : Le0 σ σ := ⟨Le.refl σ, o, fun _ h => h, fun _ _ => rfl⟩
theorem Rel.more {σ σ' : Wd} {env : EnvD} {γ : Gn} (r : Rel σ env γ) (l : Le0 σ σ') : Rel σ' env γ :=
  have s := l.toLe.sub r.ok
  ⟨l.ok, r.len, fun i w h => let ⟨d, h1, h2⟩ := r.vl i w h; ⟨d, h1, Rw.sub s _ _ h2⟩,
    fun i c h => let ⟨n, c', h1, h2, h3, h4⟩ := r.ow i c h; ⟨n, c', h1, l.aa n h2, (l.ka n (r.ok.bA n h2)).trans h3, Rc.sub s h4⟩, r.inj, fun i d h => noRef_mono l.ln (r.bE i d h)⟩
/-- a new cell that values may name -/
def Wd.push (σ : Wd) (c : Cell) : Wd := ⟨fun n => σ.P n ∨ n = σ.T.length, σ.A, σ.T ++ [c]⟩
theorem le0_push {σ : Wd} (o : σ.Ok) (c : Cell) : Le0 σ (σ.push c) :=
  ⟨⟨by simp [Wd.push], fun n h => .inl h, fun n h => h.elim .inl fun e => .inr (.inr (by omega)), fun n h => .inl h, fun n h _ => List.getElem?_append_left h⟩,
    ⟨fun n h a => h.elim (fun p => o.dis n p a) fun e => by have := o.bA n a; omega, fun n h => by
      show n < (σ.T ++ [c]).length
      rw [List.length_append]
      rcases h with h | h
      · have := o.bP n h; simp; omega
      · simp; omega, fun n h => by show n < (σ.T ++ [c]).length; rw [List.length_append]; have := o.bA n h; omega⟩,
    fun n h => h, fun n h => List.getElem?_append_left h⟩
theorem push_at (σ : Wd) (c : Cell) : (σ.push c).T[σ.T.length]? = some c := by simp [Wd.push]
theorem push_p (σ : Wd) (c : Cell) : (σ.push c).P σ.T.length := .inr rfl
theorem push_len (σ : Wd) (c : Cell) : (σ.push c).T.length = σ.T.length + 1 := by simp [Wd.push]
/-- what values of a world with more may name -/
theorem Rws.push {σ : Wd} (o : σ.Ok) {ws ds : List D} (h : Rws σ ws ds) (c : Cell) : Rws (σ.push c) ws ds := Rws.sub ((le0_push o c).toLe.sub o) _ _ h
theorem rw_new {σ : Wd} (o : σ.Ok) {ws ds : List D} (h : Rws σ ws ds) : Rw (σ.push (.lst ds)) (.lsv ws) (.ref σ.T.length) :=
  ⟨_, ds, rfl, push_p _ _, push_at _ _, h.push o _⟩

/-! ### a run met by a run -/
def SimAt {α β : Type} (Rr : Wd → α → β → Prop) (σ : Wd) (env : EnvD) (r : R β) (q : RG α) : Prop := match q with
  | .ok w γ => ∃ d σ', r = .ok d σ'.T ∧ Le σ σ' ∧ Rel σ' env γ ∧ Rr σ' w d
  | .exc C fs γ => ∃ gs σ', r = .exc C gs σ'.T ∧ Le σ σ' ∧ Rel σ' env γ ∧ fs.map (·.1) = gs.map (·.1) ∧ Rws σ' (fs.map (·.2)) (gs.map (·.2))
  | .stuck => True
def Sim {α β : Type} (Rr : Wd → α → β → Prop) (f : EnvD → Sto → R β) (g : Gn → RG α) : Prop := ∀ σ env γ, Rel σ env γ → SimAt Rr σ env (f env σ.T) (g γ)
theorem SimAt.le {α β : Type} {Rr : Wd → α → β → Prop} {σ σ1 : Wd} {env : EnvD} {r : R β} {q : RG α} (l : Le σ σ1) (h : SimAt Rr σ1 env r q) : SimAt Rr σ env r q := by
  cases q with
  | ok w γ => obtain ⟨d, σ', h1, h2, h3⟩ := h; exact ⟨d, σ', h1, l.trans h2, h3⟩
  | exc C fs γ => obtain ⟨gs, σ', h1, h2, h3⟩ := h; exact ⟨gs, σ', h1, l.trans h2, h3⟩
  | stuck => trivial
theorem SimAt.bind {α β α' β' : Type} {R1 : Wd → α → β → Prop} {R2 : Wd → α' → β' → Prop} {σ : Wd} {env : EnvD} {r : R β} {q : RG α} {kf : β → Sto → R β'} {kg : α → Gn → RG α'}
    (h : SimAt R1 σ env r q) (k : ∀ w d σ1 γ1, Le σ σ1 → Rel σ1 env γ1 → R1 σ1 w d → SimAt R2 σ1 env (kf d σ1.T) (kg w γ1)) : SimAt R2 σ env (r.bind kf) (q.bind kg) := by
  cases q with
  | ok w γ => obtain ⟨d, σ', rfl, h2, h3, h4⟩ := h; exact (k w d σ' γ h2 h3 h4).le h2
  | exc C fs γ => obtain ⟨gs, σ', rfl, h2⟩ := h; exact ⟨gs, σ', rfl, h2⟩
  | stuck => trivial
theorem SimAt.done {α β : Type} {Rr : Wd → α → β → Prop} {σ σ' : Wd} {env : EnvD} {γ : Gn} {w : α} {d : β} (l : Le σ σ') (r : Rel σ' env γ) (h : Rr σ' w d) : SimAt Rr σ env (.ok d σ'.T) (.ok w γ) := ⟨d, σ', rfl, l, r, h⟩
theorem SimAt.here {α β : Type} {Rr : Wd → α → β → Prop} {σ : Wd} {env : EnvD} {γ : Gn} {w : α} {d : β} (r : Rel σ env γ) (h : Rr σ w d) : SimAt Rr σ env (.ok d σ.T) (.ok w γ) := .done (.refl σ) r h
end Fz

/-! Gz2: operations on values with lists as values. -/
namespace Fz
open PySem PySem.Spec PyProof.Rows L2

/-- as Rw, but a list at the top may stand in any cell -/
def RwT (σ : Wd) : D → D → Prop
  | .lsv ws, d => ∃ n ds, d = .ref n ∧ σ.T[n]? = some (.lst ds) ∧ Rws σ ws ds
  | .dct ks ws, d => ∃ n kvs, d = .ref n ∧ σ.T[n]? = some (.dk kvs) ∧ kvs.map (·.1) = ks ∧ Rws σ ws (kvs.map (·.2))
  | w, d => Rw σ w d
section
variable {σ : Wd}
theorem Rw.top {w d : D} (h : Rw σ w d) : RwT σ w d := by
  cases w with
  | lsv ws => obtain ⟨n, ds, h1, h2, h3, h4⟩ := h; exact ⟨n, ds, h1, h3, h4⟩
  | dct ks ws => obtain ⟨n, ds, h1, h2, h3, h4⟩ := h; exact ⟨n, ds, h1, h3, h4⟩
  | _ => exact h
def cellW : Cell → D
  | .lst ws => .lsv ws
  | .dk kvs => .dct (kvs.map (·.1)) (kvs.map (·.2))
theorem Rc.top {c c' : Cell} {n : Nat} (h : Rc σ c c') (hn : σ.T[n]? = some c') : RwT σ (cellW c) (.ref n) := by
  cases c with
  | lst ws => obtain ⟨ds, rfl, h⟩ := h; exact ⟨n, ds, rfl, hn, h⟩
  | dk kws => obtain ⟨ds, rfl, h1, h2⟩ := h; exact ⟨n, ds, rfl, hn, h1, h2⟩
/-- the value as a list of items; tuples too -/
def itW : D → Option (List D)
  | .tup ds => some ds
  | .frl ds => some ds
  | .lsv ds => some ds
  | _ => none
def lsW : D → Option (List D)
  | .frl ds => some ds
  | .lsv ds => some ds
  | _ => none
theorem lsW_ok {w d : D} {ws : List D} (r : RwT σ w d) (h : lsW w = some ws) : ∃ ds, lstOf d σ.T = some ds ∧ Rws σ ws ds := by
  cases w <;> simp only [lsW] at h <;> try cases h
  · obtain ⟨ds, rfl, h2⟩ := r; exact ⟨ds, rfl, h2⟩
  · obtain ⟨n, ds, rfl, h2, h3⟩ := r; exact ⟨ds, by simp only [lstOf, h2], h3⟩
theorem itW_ok {w d : D} {ws : List D} (r : RwT σ w d) (h : itW w = some ws) : ∃ ds, itemsOf d σ.T = some ds ∧ Rws σ ws ds := by
  cases w <;> simp only [itW] at h <;> try cases h
  · obtain ⟨ds, rfl, h2⟩ := r; exact ⟨ds, rfl, h2⟩
  · obtain ⟨ds, rfl, h2⟩ := r; exact ⟨ds, rfl, h2⟩
  · obtain ⟨n, ds, rfl, h2, h3⟩ := r; exact ⟨ds, by simp only [itemsOf, lstOf, h2], h3⟩
/-- an operation's answer met by one over the store -/
def Ans (σ : Wd) (r : R D) (o : Option D) : Prop := ∀ w, o = Option.some w → ∃ d σ', r = .ok d σ'.T ∧ Le0 σ σ' ∧ Rw σ' w d
theorem Ans.none {r : R D} : Ans σ r Option.none := fun _ h => nomatch h
theorem Ans.some {w d : D} (o : σ.Ok) (h : Rw σ w d) : Ans σ (.ok d σ.T) (Option.some w) := fun w' e => by cases e; exact ⟨d, σ, rfl, .refl o, h⟩
theorem Ans.ite {c c' : Prop} [Decidable c] [Decidable c'] {r : R D} {o : Option D} (h : c → c') (k : c → Ans σ r o) : Ans σ (if c' then r else .stuck) (if c then o else Option.none) := by
  by_cases hc : c
  · rw [if_pos hc, if_pos (h hc)]; exact k hc
  · rw [if_neg hc]; exact .none
/-- a new list -/
def Anf (σ : Wd) (r : R D) (o : Option D) : Prop := ∀ w, o = some w → ∃ ws ds, w = .lsv ws ∧ r = .ok (.ref σ.T.length) (σ.T ++ [.lst ds]) ∧ Rws σ ws ds
theorem Anf.ans {r : R D} {o : Option D} (k : σ.Ok) (h : Anf σ r o) : Ans σ r o := fun w e => by
  obtain ⟨ws, ds, rfl, rfl, h3⟩ := h w e
  exact ⟨_, σ.push (.lst ds), rfl, le0_push k _, rw_new k h3⟩
theorem Anf.mk {ws ds : List D} (h : Rws σ ws ds) : Anf σ (.ok (.ref σ.T.length) (σ.T ++ [.lst ds])) (some (.lsv ws)) := fun w e => by cases e; exact ⟨ws, ds, rfl, rfl, h⟩
theorem Anf.ite {c c' : Prop} [Decidable c] [Decidable c'] {r : R D} {o : Option D} (h : c → c') (k : c → Anf σ r o) : Anf σ (if c' then r else .stuck) (if c then o else none) := by
  by_cases hc : c
  · rw [if_pos hc, if_pos (h hc)]; exact k hc
  · rw [if_neg hc]; exact fun _ h => nomatch h
end
def W1 (f : D → Sto → R D) (g : D → Option D) : Prop := ∀ (σ : Wd) (w d : D), σ.Ok → RwT σ w d → Ans σ (f d σ.T) (g w)
def W2 (f : D → D → Sto → R D) (g : D → D → Option D) : Prop := ∀ (σ : Wd) (w u d e : D), σ.Ok → RwT σ w d → RwT σ u e → Ans σ (f d e σ.T) (g w u)
def WN (f : List D → Sto → R D) (g : List D → Option D) : Prop := ∀ (σ : Wd) (ws ds : List D), σ.Ok → Rws σ ws ds → Ans σ (f ds σ.T) (g ws)
/-- of one argument, that may stand in any cell -/
def WN1 (f : List D → Sto → R D) (g : List D → Option D) : Prop := ∀ (σ : Wd) (w d : D), σ.Ok → RwT σ w d → Ans σ (f [d] σ.T) (g [w])

/-! ### numbers -/
def wI2 (ok : Int → Int → Bool) (f : Int → Int → D) : D → D → Option D
  | .int i, .int j => if ok i j = true then some (f i j) else none
  | _, _ => none
theorem w_i2 {vf : D → D → Sto → R D} {ok : Int → Int → Bool} {f : Int → Int → D} (hf : ∀ i j S, ok i j = true → vf (.int i) (.int j) S = .ok (f i j) S) (hr : ∀ σ i j, Rw σ (f i j) (f i j)) : W2 vf (wI2 ok f) := by
  intro σ w u d e o r1 r2 w' h
  unfold wI2 at h
  split at h
  · have e1 : d = .int _ := r1
    have e2 : e = .int _ := r2
    subst e1 e2
    split at h
    · rename_i hk; cases h; exact ⟨_, σ, hf _ _ _ hk, .refl o, hr _ _ _⟩
    · cases h
  · cases h
def wMulI := wI2 (fun i j => decide (mulOk i j)) fun i j => .int (i * j)
def wSub := wI2 (fun _ _ => true) fun i j => .int (i - j)
def wDiv := wI2 (fun _ j => decide (divOk j)) fun i j => .int (i / j)
def wMod := wI2 (fun _ j => decide (0 < j)) fun i j => .int (i % j)
def wPow := wI2 (fun i j => decide (CPow i j)) fun i j => .int (i ^ j.toNat)
def wShl := wI2 (fun i j => decide (CPow i j)) fun i j => .int (i * 2 ^ j.toNat)
def wShr := wI2 (fun _ j => decide (0 ≤ j)) fun i j => .int (i / 2 ^ j.toNat)
def wAnd := wI2 (fun _ _ => true) fun i j => .int (Builtin.bitAnd i j)
def wCmp (f : Int → Int → Bool) := wI2 (fun _ _ => true) fun i j => .bl (f i j)
abbrev wLt := wCmp fun i j => decide (i < j)
abbrev wLe := wCmp fun i j => decide (i ≤ j)
abbrev wGt := wCmp fun i j => decide (j < i)
abbrev wGe := wCmp fun i j => decide (j ≤ i)
theorem w_mulI : W2 vMulI wMulI := w_i2 (fun i j S h => by simp only [vMulI, if_pos (of_decide_eq_true h)]) fun _ _ _ => rfl
theorem w_sub : W2 vSub wSub := w_i2 (fun i j S h => rfl) fun _ _ _ => rfl
theorem w_div : W2 vDiv wDiv := w_i2 (fun i j S h => by simp only [vDiv, if_pos (of_decide_eq_true h)]) fun _ _ _ => rfl
theorem w_mod : W2 vMod wMod := w_i2 (fun i j S h => by simp only [vMod, if_pos (of_decide_eq_true h)]) fun _ _ _ => rfl
theorem w_pow : W2 vPow wPow := w_i2 (fun i j S h => by simp only [vPow, if_pos (of_decide_eq_true h)]) fun _ _ _ => rfl
theorem w_shl : W2 vShl wShl := w_i2 (fun i j S h => by simp only [vShl, if_pos (of_decide_eq_true h)]) fun _ _ _ => rfl
theorem w_shr : W2 vShr wShr := w_i2 (fun i j S h => by simp only [vShr, if_pos (of_decide_eq_true h)]) fun _ _ _ => rfl
theorem w_and : W2 vAnd wAnd := w_i2 (fun i j S h => rfl) fun _ _ _ => rfl
theorem w_cmp (f : Int → Int → Bool) : W2 (vCmp f) (wCmp f) := w_i2 (fun i j S h => rfl) fun _ _ _ => rfl
def wNeg : D → Option D
  | .int i => some (.int (-i))
  | _ => none
theorem w_neg : W1 vNeg wNeg := by
  intro σ w d o r w' h
  cases w <;> simp only [wNeg] at h <;> try cases h
  have e : d = .int _ := r
  subst e
  exact ⟨_, σ, rfl, .refl o, rfl⟩
/-! ### + and * -/
def wAdd : D → D → Option D
  | .int i, .int j => some (.int (i + j))
  | .str x, .str y => if x.length + y.length ≤ LINE then some (.str (x ++ y)) else none
  | .tup x, .tup y => if x.length + y.length ≤ LINE then some (.tup (x ++ y)) else none
  | .lsv x, .lsv y => if x.length + y.length ≤ LINE then some (.lsv (x ++ y)) else none
  | _, _ => none
theorem w_add : W2 vAdd wAdd := by
  intro σ w u d e o r1 r2
  unfold wAdd
  split
  · have e1 : d = .int _ := r1
    have e2 : e = .int _ := r2
    subst e1 e2
    exact .some o rfl
  · have e1 : d = .str _ := r1
    have e2 : e = .str _ := r2
    subst e1 e2
    simp only [vAdd]
    exact .ite id fun _ => .some o rfl
  · obtain ⟨ds, rfl, h1⟩ := r1
    obtain ⟨es, rfl, h2⟩ := r2
    simp only [vAdd]
    exact .ite (fun h => by rw [← h1.length, ← h2.length]; exact h) fun _ => .some o ⟨_, rfl, h1.append h2⟩
  · obtain ⟨m, ds, rfl, q1, h1⟩ := r1
    obtain ⟨n, es, rfl, q2, h2⟩ := r2
    simp only [vAdd, q1, q2]
    exact .ite (fun h => by rw [← h1.length, ← h2.length]; exact h) fun _ => (Anf.mk (h1.append h2)).ans o
  · exact .none
/-- two lists, one new -/
def wAddL : D → D → Option D
  | .lsv x, .lsv y => if x.length + y.length ≤ LINE then some (.lsv (x ++ y)) else none
  | _, _ => none
def W2f (f : D → D → Sto → R D) (g : D → D → Option D) : Prop := ∀ (σ : Wd) (w u d e : D), σ.Ok → RwT σ w d → RwT σ u e → Anf σ (f d e σ.T) (g w u)
theorem w_addL : W2f vAdd wAddL := by
  intro σ w u d e o r1 r2
  unfold wAddL
  split
  · obtain ⟨m, ds, rfl, q1, h1⟩ := r1
    obtain ⟨n, es, rfl, q2, h2⟩ := r2
    simp only [vAdd, q1, q2]
    exact .ite (fun h => by rw [← h1.length, ← h2.length]; exact h) fun _ => .mk (h1.append h2)
  · exact fun _ h => nomatch h
def wMulA : D → D → Option D
  | .str [c], .int k => if -1000000 < k ∧ k < 1000000 then some (.str (List.replicate k.toNat c)) else none
  | .int i, .int j => if mulOk i j then some (.int (i * j)) else none
  | .lsv ds, .int k => if -(2 ^ 62) < k ∧ k < 2 ^ 62 ∧ ds.length * k.toNat ≤ LINE then some (.lsv (List.replicate k.toNat ds).flatten) else none
  | _, _ => none
theorem Rws.rep {σ : Wd} {ws ds : List D} (h : Rws σ ws ds) : ∀ k : Nat, Rws σ (List.replicate k ws).flatten (List.replicate k ds).flatten
  | 0 => rfl
  | k + 1 => by rw [List.replicate_succ, List.replicate_succ, List.flatten_cons, List.flatten_cons]; exact h.append (Rws.rep h k)
theorem w_mulA : W2 vMulA wMulA := by
  intro σ w u d e o r1 r2
  unfold wMulA
  split
  · have e1 : d = .str _ := r1
    have e2 : e = .int _ := r2
    subst e1 e2
    simp only [vMulA]
    exact .ite id fun _ => .some o rfl
  · have e1 : d = .int _ := r1
    have e2 : e = .int _ := r2
    subst e1 e2
    simp only [vMulA]
    exact .ite id fun _ => .some o rfl
  · obtain ⟨m, ds, rfl, q1, h1⟩ := r1
    have e2 : e = .int _ := r2
    subst e2
    simp only [vMulA, q1]
    exact .ite (fun h => by rw [← h1.length]; exact h) fun _ => (Anf.mk (h1.rep _)).ans o
  · exact .none
def wMulL : D → D → Option D
  | .lsv ds, .int k => if -(2 ^ 62) < k ∧ k < 2 ^ 62 ∧ ds.length * k.toNat ≤ LINE then some (.lsv (List.replicate k.toNat ds).flatten) else none
  | _, _ => none
theorem w_mulL : W2f vMulA wMulL := by
  intro σ w u d e o r1 r2
  unfold wMulL
  split
  · obtain ⟨m, ds, rfl, q1, h1⟩ := r1
    have e2 : e = .int _ := r2
    subst e2
    simp only [vMulA, q1]
    exact .ite (fun h => by rw [← h1.length]; exact h) fun _ => .mk (h1.rep _)
  · exact fun _ h => nomatch h
/-! ### data -/
theorem py_ok {σ : Wd} : ∀ (n : Nat) (w d : D) (p : PyData), RwT σ w d → toPy [] n w = some p → toPy σ.T n d = some p
  | 0, w, d, p, r, h => by cases h
  | n + 1, w, d, p, r, h => by
    have hl : ∀ (ws ds : List D) (ps : List PyData), Rws σ ws ds → mapO (toPy [] n) ws = some ps → mapO (toPy σ.T n) ds = some ps := by
      intro ws
      induction ws with
      | nil => intro ds ps r h; have e : ds = [] := r; subst e; exact h
      | cons w ws ih =>
        intro ds ps r h
        obtain ⟨d, dr, rfl, h1, h2⟩ := r
        unfold mapO at h ⊢
        split at h
        · rename_i b bs hb hbs
          cases h
          rw [py_ok n w d b h1.top hb, ih dr bs h2 hbs]
        · cases h
    cases w with
    | non => have e : d = .non := r; subst e; exact h
    | bl b => have e : d = .bl b := r; subst e; exact h
    | int b => have e : d = .int b := r; subst e; exact h
    | str b => have e : d = .str b := r; subst e; exact h
    | tup ws =>
      obtain ⟨ds, rfl, h2⟩ := r
      obtain ⟨ps, h1, rfl⟩ := Option.map_eq_some_iff.mp h
      simp only [toPy]
      rw [hl ws ds ps h2 h1]; rfl
    | frl ws =>
      obtain ⟨ds, rfl, h2⟩ := r
      obtain ⟨ps, h1, rfl⟩ := Option.map_eq_some_iff.mp h
      simp only [toPy]
      rw [hl ws ds ps h2 h1]; rfl
    | lsv ws =>
      obtain ⟨k, ds, rfl, h2, h3⟩ := r
      obtain ⟨ps, h1, rfl⟩ := Option.map_eq_some_iff.mp h
      simp only [toPy, h2]
      rw [hl ws ds ps h3 h1]; rfl
    | ref k => exact r.elim
    | fn x => cases h
    | lam _ => cases h
    | dct ks ws => cases h
def wEqA (f : Bool → Bool) (w u : D) : Option D := match w, u with
  | .str x, .str y => some (.bl (f (x == y)))
  | w, u => match toPy [] 40 w, toPy [] 40 u with
    | some p, some q => if SeqAt.shaped p = true ∧ SeqAt.shaped q = true then some (.bl (f (PyData.eqv p q))) else none
    | _, _ => none
theorem w_eqA (f : Bool → Bool) : W2 (eqA f) (wEqA f) := by
  intro σ w u d e o r1 r2
  have main : Ans σ (eqG f d e σ.T) (match toPy [] 40 w, toPy [] 40 u with
    | some p, some q => if SeqAt.shaped p = true ∧ SeqAt.shaped q = true then some (.bl (f (PyData.eqv p q))) else none
    | _, _ => none) := by
    split
    · rename_i p q hp hq
      unfold eqG
      rw [py_ok 40 w d p r1 hp, py_ok 40 u e q r2 hq]
      exact .ite id fun _ => .some o rfl
    · exact .none
  unfold wEqA
  split
  · have e1 : d = .str _ := r1
    have e2 : e = .str _ := r2
    subst e1 e2
    exact .some o rfl
  · rename_i x y hne
    have : eqA f d e σ.T = eqG f d e σ.T := by
      unfold eqA
      split
      · rename_i a b
        exfalso
        have : ∀ {w : D} {a : List Nat}, RwT σ w (.str a) → w = .str a := by
          intro w a r
          cases w with
          | str x => have e : D.str a = .str x := r; exact e.symm
          | non => exact (nomatch (show D.str a = .non from r))
          | bl b => exact (nomatch (show D.str a = .bl b from r))
          | int b => exact (nomatch (show D.str a = .int b from r))
          | fn b => exact (nomatch (show D.str a = .fn b from r))
          | lam q => exact (nomatch (show D.str a = .lam q from r))
          | tup b => obtain ⟨_, z, _⟩ := r; cases z
          | frl b => obtain ⟨_, z, _⟩ := r; cases z
          | lsv b => obtain ⟨_, _, z, _⟩ := r; cases z
          | dct _ b => obtain ⟨_, _, z, _⟩ := r; cases z
          | ref b => exact r.elim
        exact hne a b (this r1) (this r2)
      · rfl
    rw [this]; exact main
def wEq := wEqA id
def wNe := wEqA not
theorem w_eq : W2 vEq wEq := w_eqA id
theorem w_ne : W2 vNe wNe := w_eqA not
/-! ### is -/
def wIs (f : Bool → Bool) : D → D → Option D
  | .non, .non => some (.bl (f true))
  | .ref _, .non => none
  | _, .non => some (.bl (f false))
  | .bl a, .bl b => some (.bl (f (a == b)))
  | _, _ => none
theorem non_of {σ : Wd} {w d : D} (r : RwT σ w d) (h : w ≠ .non) : d ≠ .non := by
  cases w with
  | non => exact absurd rfl h
  | bl b => have e : d = .bl b := r; subst e; exact fun z => nomatch z
  | int b => have e : d = .int b := r; subst e; exact fun z => nomatch z
  | str b => have e : d = .str b := r; subst e; exact fun z => nomatch z
  | fn b => have e : d = .fn b := r; subst e; exact fun z => nomatch z
  | lam q => have e : d = .lam q := r; subst e; exact fun z => nomatch z
  | tup b => obtain ⟨_, rfl, _⟩ := r; exact fun z => nomatch z
  | frl b => obtain ⟨_, rfl, _⟩ := r; exact fun z => nomatch z
  | lsv b => obtain ⟨_, _, rfl, _⟩ := r; exact fun z => nomatch z
  | dct _ b => obtain ⟨_, _, rfl, _⟩ := r; exact fun z => nomatch z
  | ref b => exact r.elim
theorem w_is : W2 vIsN (wIs id) := by
  intro σ w u d e o r1 r2
  unfold wIs
  split
  · have e1 : d = .non := r1
    have e2 : e = .non := r2
    subst e1 e2; exact .some o rfl
  · exact .none
  · rename_i h1 h2
    have e2 : e = .non := r2
    have n1 : d ≠ .non := non_of r1 h1
    subst e2
    unfold vIsN
    split
    · exact absurd rfl n1
    · exact .some o rfl
    · rename_i q; cases q
    · simp_all
  · have e1 : d = .bl _ := r1
    have e2 : e = .bl _ := r2
    subst e1 e2; exact .some o rfl
  · exact .none
theorem w_isnot : W2 vNotN (wIs not) := by
  intro σ w u d e o r1 r2
  unfold wIs
  split
  · have e1 : d = .non := r1
    have e2 : e = .non := r2
    subst e1 e2; exact .some o rfl
  · exact .none
  · rename_i h1 h2
    have e2 : e = .non := r2
    have n1 : d ≠ .non := non_of r1 h1
    subst e2
    unfold vNotN
    split
    · exact absurd rfl n1
    · exact .some o rfl
    · rename_i q; cases q
    · simp_all
  · have e1 : d = .bl _ := r1
    have e2 : e = .bl _ := r2
    subst e1 e2; exact .some o rfl
  · exact .none
/-! ### index, slices -/
def wIx : D → D → Option D
  | .str x, .int i => if x.length ≤ LINE then (atI x i).map fun c => .str [c] else none
  | .tup ds, .int i => atI ds i
  | .frl ds, .int i => atI ds i
  | .lsv ds, .int i => atI ds i
  | _, _ => none
theorem atI_ok {σ : Wd} {ws ds : List D} {i : Int} {w : D} (r : Rws σ ws ds) (h : atI ws i = some w) : ∃ d, atI ds i = some d ∧ Rw σ w d := by
  unfold atI at h ⊢
  rw [← r.length]
  cases e : ixN ws.length i with
  | none => rw [e] at h; cases h
  | some k => rw [e] at h; exact Rws.get r h
theorem w_ix : W2 vIx wIx := by
  intro σ w u d e o r1 r2 w' h
  unfold wIx at h
  split at h
  · have e1 : d = .str _ := r1
    have e2 : e = .int _ := r2
    subst e1 e2
    split at h
    · rename_i hl
      obtain ⟨c, hc, rfl⟩ := Option.map_eq_some_iff.mp h
      exact ⟨_, σ, by simp only [vIx, if_pos hl, hc], .refl o, rfl⟩
    · cases h
  · obtain ⟨ds, rfl, h1⟩ := r1
    have e2 : e = .int _ := r2
    subst e2
    obtain ⟨d, h3, h4⟩ := atI_ok h1 h
    exact ⟨d, σ, by simp only [vIx, h3], .refl o, h4⟩
  · obtain ⟨ds, rfl, h1⟩ := r1
    have e2 : e = .int _ := r2
    subst e2
    obtain ⟨d, h3, h4⟩ := atI_ok h1 h
    exact ⟨d, σ, by simp only [vIx, h3], .refl o, h4⟩
  · obtain ⟨n, ds, rfl, q, h1⟩ := r1
    have e2 : e = .int _ := r2
    subst e2
    obtain ⟨d, h3, h4⟩ := atI_ok h1 h
    exact ⟨d, σ, by simp only [vIx, q, h3], .refl o, h4⟩
  · cases h
theorem Rws.cut {σ : Wd} {ws ds : List D} (r : Rws σ ws ds) (l u : Option Int) : Rws σ (cutD ws l u) (cutD ds l u) := by
  unfold cutD; rw [← r.length]; exact (r.drop _).take _
def wSl (w : D) (l u : Option Int) : Option D := match w with
  | .tup ds => some (.tup (cutD ds l u))
  | .frl ds => some (.lsv (cutD ds l u))
  | .lsv ds => some (.lsv (cutD ds l u))
  | .str x => if x.length ≤ LINE then some (.str (cutD x l u)) else none
  | _ => none
theorem w_sl {σ : Wd} {w d : D} {l u : Option Int} (o : σ.Ok) (r : RwT σ w d) : Ans σ (vSl d l u σ.T) (wSl w l u) := by
  unfold wSl
  split
  · obtain ⟨ds, rfl, h1⟩ := r
    exact .some o ⟨_, rfl, h1.cut l u⟩
  · obtain ⟨ds, rfl, h1⟩ := r
    exact (Anf.mk (h1.cut l u)).ans o
  · obtain ⟨n, ds, rfl, q, h1⟩ := r
    simp only [vSl, q]
    exact (Anf.mk (h1.cut l u)).ans o
  · have e1 : d = .str _ := r
    subst e1
    simp only [vSl]
    exact .ite id fun _ => .some o rfl
  · exact .none
def wSlL (w : D) (l u : Option Int) : Option D := match w with
  | .frl ds => some (.lsv (cutD ds l u))
  | .lsv ds => some (.lsv (cutD ds l u))
  | _ => none
theorem w_slL {σ : Wd} {w d : D} {l u : Option Int} (o : σ.Ok) (r : RwT σ w d) : Anf σ (vSl d l u σ.T) (wSlL w l u) := by
  unfold wSlL
  split
  · obtain ⟨ds, rfl, h1⟩ := r
    exact .mk (h1.cut l u)
  · obtain ⟨n, ds, rfl, q, h1⟩ := r
    simp only [vSl, q]
    exact .mk (h1.cut l u)
  · exact fun _ h => nomatch h
def wRev (w : D) : Option D := match w with
  | .str x => if x.length ≤ LINE then some (.str x.reverse) else none
  | .frl ds => some (.lsv ds.reverse)
  | .lsv ds => some (.lsv ds.reverse)
  | _ => none
theorem w_rev : W1 vRev wRev := by
  intro σ w d o r
  unfold wRev
  split
  · have e1 : d = .str _ := r
    subst e1
    simp only [vRev]
    exact .ite id fun _ => .some o rfl
  · obtain ⟨ds, rfl, h1⟩ := r
    exact (Anf.mk h1.reverse).ans o
  · obtain ⟨n, ds, rfl, q, h1⟩ := r
    simp only [vRev, lstOf, q]
    exact (Anf.mk h1.reverse).ans o
  · exact .none
/-! ### displays -/
def wTup (ds : List D) : Option D := if ds.length ≤ LINE then some (.tup ds) else none
def wLst (ds : List D) : Option D := if ds.length ≤ LINE then some (.lsv ds) else none
theorem w_tup : WN vTup wTup := fun σ ws ds o r => by
  unfold vTup wTup
  exact .ite (fun h => by rw [← r.length]; exact h) fun _ => .some o ⟨_, rfl, r⟩
def WNf (f : List D → Sto → R D) (g : List D → Option D) : Prop := ∀ (σ : Wd) (ws ds : List D), σ.Ok → Rws σ ws ds → Anf σ (f ds σ.T) (g ws)
theorem WNf.wn {f : List D → Sto → R D} {g : List D → Option D} (h : WNf f g) : WN f g := fun σ ws ds o r => (h σ ws ds o r).ans o
theorem w_lst : WNf vLst wLst := fun σ ws ds o r => by
  unfold vLst wLst
  exact .ite (fun h => by rw [← r.length]; exact h) fun _ => .mk r
/-! ### built-ins -/
theorem ints_ok {σ : Wd} : ∀ {ws ds : List D} {ns : List Int}, Rws σ ws ds → intsOf ws = some ns → intsOf ds = some ns
  | [], ds, ns, r, h => by have e : ds = [] := r; subst e; exact h
  | w :: ws, ds, ns, r, h => by
    obtain ⟨d, dr, rfl, h1, h2⟩ := r
    cases w <;> simp only [intsOf] at h <;> try cases h
    have e : d = .int _ := h1
    subst e
    obtain ⟨ms, q, rfl⟩ := Option.map_eq_some_iff.mp h
    simp only [intsOf, ints_ok h2 q]; rfl
theorem bls_ok {σ : Wd} : ∀ {ws ds : List D} {ns : List Bool}, Rws σ ws ds → blsOf ws = some ns → blsOf ds = some ns
  | [], ds, ns, r, h => by have e : ds = [] := r; subst e; exact h
  | w :: ws, ds, ns, r, h => by
    obtain ⟨d, dr, rfl, h1, h2⟩ := r
    cases w <;> simp only [blsOf] at h <;> try cases h
    have e : d = .bl _ := h1
    subst e
    obtain ⟨ms, q, rfl⟩ := Option.map_eq_some_iff.mp h
    simp only [blsOf, bls_ok h2 q]; rfl
theorem strs_ok {σ : Wd} : ∀ {ws ds : List D} {ns : List (List Nat)}, Rws σ ws ds → strsOf ws = some ns → strsOf ds = some ns
  | [], ds, ns, r, h => by have e : ds = [] := r; subst e; exact h
  | w :: ws, ds, ns, r, h => by
    obtain ⟨d, dr, rfl, h1, h2⟩ := r
    cases w <;> simp only [strsOf] at h <;> try cases h
    have e : d = .str _ := h1
    subst e
    obtain ⟨ms, q, rfl⟩ := Option.map_eq_some_iff.mp h
    simp only [strsOf, strs_ok h2 q]; rfl
def wLen : List D → Option D
  | [.str x] => if x.length ≤ LINE then some (.int x.length) else none
  | [.tup ds] => some (.int ds.length)
  | [.frl ds] => some (.int ds.length)
  | [.lsv ds] => some (.int ds.length)
  | _ => none
theorem w_len : WN1 vLen wLen := by
  intro σ w d o r
  cases w <;> try exact .none
  · have e : d = .str _ := r
    subst e; simp only [vLen, wLen]; exact .ite id fun _ => .some o rfl
  · obtain ⟨ds, rfl, h1⟩ := r; simp only [wLen, h1.length]; exact .some o rfl
  · obtain ⟨ds, rfl, h1⟩ := r; simp only [wLen, h1.length]; exact .some o rfl
  · obtain ⟨n, ds, rfl, q, h1⟩ := r; simp only [wLen, h1.length, vLen, q]; exact .some o rfl
/-- of one argument told by the list of its items -/
theorem w_of {vf : List D → Sto → R D} {α : Type} {of : List D → Option α} {f : α → Option D} {w d : D} {σ : Wd} {ok : ∀ ws ds a, Rws σ ws ds → of ws = some a → of ds = some a}
    (h : ∀ a x, f a = some x → (lstOf d σ.T).bind of = some a → vf [d] σ.T = .ok x σ.T ∧ Rw σ x x) (o : σ.Ok) (r : RwT σ w d) : Ans σ (vf [d] σ.T) (((lsW w).bind of).bind f) := by
  intro x hx
  obtain ⟨a, h1, h2⟩ := Option.bind_eq_some_iff.mp hx
  obtain ⟨ws, h3, h4⟩ := Option.bind_eq_some_iff.mp h1
  obtain ⟨ds, h5, h6⟩ := lsW_ok r h3
  obtain ⟨q1, q2⟩ := h a x h2 (by rw [h5]; exact ok _ _ _ h6 h4)
  exact ⟨x, σ, q1, .refl o, q2⟩
def wSum : List D → Option D
  | [d] => ((itW d).bind intsOf).map fun ns => .int ns.sum
  | _ => none
theorem w_sumA : WN1 vSumA wSum := by
  intro σ w d o r x hx
  simp only [wSum] at hx
  obtain ⟨ns, h1, rfl⟩ := Option.map_eq_some_iff.mp hx
  obtain ⟨ws, h3, h4⟩ := Option.bind_eq_some_iff.mp h1
  refine ⟨_, σ, ?_, .refl o, rfl⟩
  cases w <;> simp only [itW] at h3 <;> try cases h3
  · obtain ⟨ds, rfl, h5⟩ := r; simp only [vSumA, ints_ok h5 h4]
  · obtain ⟨ds, rfl, h5⟩ := r; simp only [vSumA, lstOf, Option.bind_some, ints_ok h5 h4]
  · obtain ⟨n, ds, rfl, q, h5⟩ := r; simp only [vSumA, lstOf, q, Option.bind_some, ints_ok h5 h4]
def wSumL : List D → Option D
  | [d] => ((lsW d).bind intsOf).map fun ns => .int ns.sum
  | _ => none
theorem w_sum : WN1 vSum wSumL := by
  intro σ w d o r x hx
  simp only [wSumL] at hx
  obtain ⟨ns, h1, rfl⟩ := Option.map_eq_some_iff.mp hx
  obtain ⟨ws, h3, h4⟩ := Option.bind_eq_some_iff.mp h1
  obtain ⟨ds, h5, h6⟩ := lsW_ok r h3
  exact ⟨_, σ, by simp only [vSum, h5, Option.bind_some, ints_ok h6 h4], .refl o, rfl⟩
def wAll : List D → Option D
  | [d] => ((lsW d).bind blsOf).map fun bs => .bl (bs.all id)
  | _ => none
theorem w_all : WN1 vAll wAll := by
  intro σ w d o r x hx
  simp only [wAll] at hx
  obtain ⟨ns, h1, rfl⟩ := Option.map_eq_some_iff.mp hx
  obtain ⟨ws, h3, h4⟩ := Option.bind_eq_some_iff.mp h1
  obtain ⟨ds, h5, h6⟩ := lsW_ok r h3
  exact ⟨_, σ, by simp only [vAll, h5, Option.bind_some, bls_ok h6 h4], .refl o, rfl⟩
def wAny : List D → Option D
  | [d] => ((lsW d).bind blsOf).map fun bs => .bl (bs.any id)
  | _ => none
theorem w_any : WN1 vAny wAny := by
  intro σ w d o r x hx
  simp only [wAny] at hx
  obtain ⟨ns, h1, rfl⟩ := Option.map_eq_some_iff.mp hx
  obtain ⟨ws, h3, h4⟩ := Option.bind_eq_some_iff.mp h1
  obtain ⟨ds, h5, h6⟩ := lsW_ok r h3
  exact ⟨_, σ, by simp only [vAny, h5, Option.bind_some, bls_ok h6 h4], .refl o, rfl⟩
def wMax : List D → Option D
  | [d] => match (lsW d).bind intsOf with
    | some (n :: ns) => some (.int (maxI (n :: ns)))
    | _ => none
  | _ => none
theorem w_max : WN1 vMax wMax := by
  intro σ w d o r x hx
  simp only [wMax] at hx
  split at hx
  · rename_i n ns h1
    cases hx
    obtain ⟨ws, h3, h4⟩ := Option.bind_eq_some_iff.mp h1
    obtain ⟨ds, h5, h6⟩ := lsW_ok r h3
    exact ⟨_, σ, by simp only [vMax, h5, Option.bind_some, ints_ok h6 h4], .refl o, rfl⟩
  · cases hx
def wMin : List D → Option D
  | [d] => match (lsW d).bind intsOf with
    | some (n :: ns) => some (.int (minI (n :: ns)))
    | _ => none
  | _ => none
theorem w_min : WN1 vMin wMin := by
  intro σ w d o r x hx
  simp only [wMin] at hx
  split at hx
  · rename_i n ns h1
    cases hx
    obtain ⟨ws, h3, h4⟩ := Option.bind_eq_some_iff.mp h1
    obtain ⟨ds, h5, h6⟩ := lsW_ok r h3
    exact ⟨_, σ, by simp only [vMin, h5, Option.bind_some, ints_ok h6 h4], .refl o, rfl⟩
  · cases hx
def wTuple : List D → Option D
  | [d] => (itW d).map .tup
  | _ => none
theorem w_tuple : WN1 vTuple wTuple := by
  intro σ w d o r x hx
  simp only [wTuple] at hx
  obtain ⟨ws, h3, rfl⟩ := Option.map_eq_some_iff.mp hx
  cases w <;> simp only [itW] at h3 <;> try cases h3
  · obtain ⟨ds, rfl, h5⟩ := r; exact ⟨_, σ, rfl, .refl o, ds, rfl, h5⟩
  · obtain ⟨ds, rfl, h5⟩ := r; exact ⟨_, σ, rfl, .refl o, ds, rfl, h5⟩
  · obtain ⟨n, ds, rfl, q, h5⟩ := r; exact ⟨_, σ, by simp only [vTuple, lstOf, q], .refl o, ds, rfl, h5⟩
def wList : List D → Option D
  | [d] => (itW d).map .lsv
  | _ => none
theorem w_list {σ : Wd} {w d : D} (o : σ.Ok) (r : RwT σ w d) : Anf σ (vList [d] σ.T) (wList [w]) := by
  intro x hx
  simp only [wList] at hx
  obtain ⟨ws, h3, rfl⟩ := Option.map_eq_some_iff.mp hx
  cases w <;> simp only [itW] at h3 <;> try cases h3
  · obtain ⟨ds, rfl, h5⟩ := r; exact ⟨_, ds, rfl, rfl, h5⟩
  · obtain ⟨ds, rfl, h5⟩ := r; exact ⟨_, ds, rfl, rfl, h5⟩
  · obtain ⟨n, ds, rfl, q, h5⟩ := r; exact ⟨_, ds, rfl, by simp only [vList, lstOf, q], h5⟩
def wRepr : List D → Option D
  | [d] => match toPy [] 40 d with
    | some p => if okShow p then some (.str (showD p)) else none
    | none => none
  | _ => none
theorem w_repr : WN1 vRepr wRepr := by
  intro σ w d o r
  cases h : toPy [] 40 w with
  | none => simp only [wRepr, h]; exact .none
  | some p =>
    simp only [wRepr, vRepr, h, py_ok 40 w d p r h]
    exact .ite id fun _ => .some o rfl
def wAbs : List D → Option D
  | [.int i] => some (.int (if i < 0 then -i else i))
  | _ => none
theorem w_abs : WN1 vAbs wAbs := by
  intro σ w d o r
  cases w <;> try exact .none
  have e : d = .int _ := r
  subst e; exact .some o rfl
def wInt : List D → Option D
  | [.int i] => some (.int i)
  | [.bl k] => some (.int (if k then 1 else 0))
  | _ => none
theorem w_int : WN1 vInt wInt := by
  intro σ w d o r
  cases w <;> try exact .none
  · have e : d = .bl _ := r
    subst e; exact .some o rfl
  · have e : d = .int _ := r
    subst e; exact .some o rfl
theorem WN1.wn {f : List D → Sto → R D} {g : List D → Option D} (h : WN1 f g) (h0 : ∀ ws, ws.length ≠ 1 → g ws = none := by intro ws h; rcases ws with _ | ⟨_, _ | ⟨_, _⟩⟩ <;> first | rfl | exact absurd rfl h) : WN f g := by
  intro σ ws ds o r
  rcases ws with _ | ⟨w, _ | ⟨u, ws⟩⟩
  · rw [h0 [] (by decide)]; exact .none
  · obtain ⟨d, dr, rfl, h1, h2⟩ := r
    have e : dr = [] := h2
    subst e
    exact h σ w d o h1.top
  · rw [h0 _ (by simp)]; exact .none
def wII (f : Int → Int → Option D) : List D → Option D
  | [.int i, .int j] => f i j
  | _ => none
theorem w_ii {vf : List D → Sto → R D} {f : Int → Int → Option D} (h : ∀ i j x S, f i j = some x → vf [.int i, .int j] S = .ok x S) (hr : ∀ σ i j x, f i j = some x → Rw σ x x) : WN vf (wII f) := by
  intro σ ws ds o r x hx
  unfold wII at hx
  split at hx
  · obtain ⟨d, dr, rfl, h1, h2⟩ := r
    obtain ⟨e, er, rfl, h3, h4⟩ := h2
    have e1 : d = .int _ := h1
    have e2 : e = .int _ := h3
    have e3 : er = [] := h4
    subst e1 e2 e3
    exact ⟨x, σ, h _ _ _ _ hx, .refl o, hr _ _ _ _ hx⟩
  · cases hx
def wMax2 := wII fun i j => some (.int (if j > i then j else i))
def wMin2 := wII fun i j => some (.int (if j < i then j else i))
def wGcd := wII fun i j => some (.int ((Nat.gcd i.natAbs j.natAbs : Nat) : Int))
def wDivmod := wII fun i j => if CDiv i j then some (.tup [.int (i / j), .int (i % j)]) else none
theorem w_max2 : WN vMax2 wMax2 := w_ii (fun i j x S h => by cases h; rfl) fun _ _ _ _ h => by cases h; rfl
theorem w_min2 : WN vMin2 wMin2 := w_ii (fun i j x S h => by cases h; rfl) fun _ _ _ _ h => by cases h; rfl
theorem w_gcd : WN vGcd wGcd := w_ii (fun i j x S h => by cases h; rfl) fun _ _ _ _ h => by cases h; rfl
theorem w_divmod : WN vDivmod wDivmod := w_ii (fun i j x S h => by
  split at h
  · rename_i hk; cases h; simp only [vDivmod, if_pos hk]
  · cases h) fun _ _ _ _ h => by
  split at h
  · cases h; exact ⟨_, rfl, _, _, rfl, rfl, _, _, rfl, rfl, rfl⟩
  · cases h
def wLR : D → D → Option D
  | .int i, .int j => if RgOk i j then some (.lsv (intsD i 1 (j - i).toNat)) else none
  | _, _ => none
theorem rws_ints {σ : Wd} : ∀ (ds : List D), (∀ d ∈ ds, Rw σ d d) → Rws σ ds ds
  | [], _ => rfl
  | d :: ds, h => ⟨d, ds, rfl, h d List.mem_cons_self, rws_ints ds fun e he => h e (List.mem_cons_of_mem _ he)⟩
theorem rws_intsD {σ : Wd} (i c : Int) (n : Nat) : Rws σ (intsD i c n) (intsD i c n) := rws_ints _ fun d h => by
  unfold intsD at h; obtain ⟨k, _, rfl⟩ := List.mem_map.mp h; rfl
theorem w_lr : W2f vLR wLR := by
  intro σ w u d e o r1 r2
  unfold wLR
  split
  · have e1 : d = .int _ := r1
    have e2 : e = .int _ := r2
    subst e1 e2
    exact .ite id fun _ => .mk (rws_intsD _ _ _)
  · exact fun _ h => nomatch h
theorem W2f.w2 {f : D → D → Sto → R D} {g : D → D → Option D} (h : W2f f g) : W2 f g := fun σ w u d e o r1 r2 => (h σ w u d e o r1 r2).ans o
/-! ### in -/
theorem flat_ok {σ : Wd} {w d : D} (r : RwT σ w d) (h : flatD w = true) : d = w := by
  cases w <;> first | exact r | cases h
theorem flats_ok {σ : Wd} : ∀ {ws ds : List D}, Rws σ ws ds → ws.all flatD = true → ds = ws
  | [], ds, r, h => r
  | w :: ws, ds, r, h => by
    obtain ⟨d, dr, rfl, h1, h2⟩ := r
    rw [List.all_cons, Bool.and_eq_true] at h
    rw [flat_ok h1.top h.1, flats_ok h2 h.2]
def wInG (f : Bool → Bool) (w u : D) : Option D := match w, u with
  | .str [c], .str z => some (.bl (f (decide (c ∈ z))))
  | w, u => match itW u with
    | some es => if flatD w = true ∧ es.all flatD = true then some (.bl (f (es.any fun y => eqF y w))) else none
    | none => none
theorem w_inG (f : Bool → Bool) : W2 (inG f) (wInG f) := by
  intro σ w u d e o r1 r2 x hx
  unfold wInG at hx
  split at hx
  · have e1 : d = .str _ := r1
    have e2 : e = .str _ := r2
    subst e1 e2
    cases hx
    exact ⟨_, σ, rfl, .refl o, rfl⟩
  · rename_i hne
    split at hx
    · rename_i es hes
      split at hx
      · rename_i hk
        obtain ⟨h1, h2⟩ := hk
        cases hx
        have e1 : d = w := flat_ok r1 h1
        subst e1
        obtain ⟨ds, h3, h4⟩ := itW_ok r2 hes
        have e2 : ds = es := flats_ok h4 h2
        subst e2
        refine ⟨_, σ, ?_, .refl o, rfl⟩
        unfold inG
        split
        · rename_i c z
          exact absurd h3 (by simp [itemsOf, lstOf])
        · rw [h3]; simp only []; rw [if_pos ⟨h1, h2⟩]
      · cases hx
    · cases hx
def wIn := wInG id
def wNotIn := wInG not
theorem w_in : W2 vIn wIn := w_inG id
theorem w_notIn : W2 vNotIn wNotIn := w_inG not
/-! ### truth, types -/
theorem tru_ok {σ : Wd} {w d : D} {b : Bool} (r : RwT σ w d) (h : truD w [] = some b) : truD d σ.T = some b := by
  cases w with
  | non => have e : d = .non := r; subst e; exact h
  | bl b => have e : d = .bl b := r; subst e; exact h
  | int b => have e : d = .int b := r; subst e; exact h
  | str b => have e : d = .str b := r; subst e; exact h
  | tup ws => obtain ⟨ds, rfl, h2⟩ := r; simp only [truD] at h ⊢; rw [← h2.empty]; exact h
  | frl ws => obtain ⟨ds, rfl, h2⟩ := r; simp only [truD] at h ⊢; rw [← h2.empty]; exact h
  | lsv ws => obtain ⟨n, ds, rfl, q, h2⟩ := r; simp only [truD, q] at h ⊢; rw [← h2.empty]; exact h
  | dct ks ws =>
    obtain ⟨n, ds, rfl, q, h1, h2⟩ := r
    simp only [truD, q] at h ⊢
    rw [← h, ← h1]; cases ds <;> rfl
  | ref n => exact r.elim
  | fn x => cases h
  | lam _ => cases h
theorem ty_ok {σ : Wd} {w d : D} {b : String} (r : RwT σ w d) (h : tyN w [] = some b) : tyN d σ.T = some b := by
  cases w with
  | non => have e : d = .non := r; subst e; exact h
  | bl b => have e : d = .bl b := r; subst e; exact h
  | int b => have e : d = .int b := r; subst e; exact h
  | str b => have e : d = .str b := r; subst e; exact h
  | tup ws => obtain ⟨ds, rfl, h2⟩ := r; exact h
  | frl ws => obtain ⟨ds, rfl, h2⟩ := r; exact h
  | lsv ws => obtain ⟨n, ds, rfl, q, h2⟩ := r; simp only [tyN, q]; exact h
  | dct ks ws => obtain ⟨n, ds, rfl, q, h2⟩ := r; simp only [tyN, q]; exact h
  | ref n => exact r.elim
  | fn x => cases h
  | lam _ => cases h
def wIsi (b : String) (w : D) : Option D := ((tyN w []).bind fun a => kitB a b).map .bl
theorem w_isi (b : String) : W1 (vIsi b) (wIsi b) := by
  intro σ w d o r x hx
  obtain ⟨k, h1, rfl⟩ := Option.map_eq_some_iff.mp hx
  obtain ⟨a, h2, h3⟩ := Option.bind_eq_some_iff.mp h1
  exact ⟨_, σ, by simp only [vIsi, ty_ok r h2, Option.bind_some, h3], .refl o, rfl⟩
/-! ### methods of texts -/
def wJoin : D → List D → Option D
  | .str a, [d] => match (lsW d).bind strsOf with
    | some ys => if (ys.map (·.length)).sum + ys.length * a.length ≤ LINE then some (.str (TL.joinL a ys)) else none
    | none => none
  | _, _ => none
def WM (f : D → List D → Sto → R D) (g : D → List D → Option D) : Prop := ∀ (σ : Wd) (w d : D) (ws ds : List D), σ.Ok → RwT σ w d → Rws σ ws ds → Ans σ (f d ds σ.T) (g w ws)
theorem w_join : WM vJoin wJoin := by
  intro σ w d ws ds o r1 r2
  unfold wJoin
  split
  · have e1 : d = .str _ := r1
    subst e1
    obtain ⟨d, dr, rfl, h1, h2⟩ := r2
    have e : dr = [] := h2
    subst e
    split
    · rename_i ys hy
      obtain ⟨ws, h3, h4⟩ := Option.bind_eq_some_iff.mp hy
      obtain ⟨ds, h5, h6⟩ := lsW_ok h1.top h3
      simp only [vJoin, h5, Option.bind_some, strs_ok h6 h4]
      exact .ite id fun _ => .some o rfl
    · exact .none
  · exact .none
end Fz

/-! Gz3: expressions. -/
namespace Fz
open PySem PySem.Spec PyProof.Rows L2

abbrev GE := Gn → RG D
abbrev GT := Gn → RG Bool
abbrev GA := Gn → RG (List D)
abbrev GO := Gn → RG (Option Int)
abbrev SimE (f : E) (g : GE) : Prop := Sim Rw f g
abbrev SimP (f : E) (g : GE) : Prop := Sim RwT f g
abbrev SimT (f : T) (g : GT) : Prop := Sim (fun _ b c => c = b) f g
abbrev SimA (f : As) (g : GA) : Prop := Sim Rws f g
abbrev SimO (f : O) (g : GO) : Prop := Sim (fun _ b c => c = b) f g
def gOpt {α : Type} (o : Option α) (γ : Gn) : RG α := match o with
  | some w => .ok w γ
  | none => .stuck
section
variable {σ : Wd} {env : EnvD} {γ : Gn}
theorem SimAt.ans {r : R D} {o : Option D} (rel : Rel σ env γ) (h : Ans σ r o) : SimAt Rw σ env r (gOpt o γ) := by
  cases o with
  | none => trivial
  | some w => obtain ⟨d, σ', rfl, h2, h3⟩ := h w rfl; exact .done h2.toLe (rel.more h2) h3
theorem SimAt.opt {α β : Type} {Rr : Wd → α → β → Prop} {r : R β} {o : Option α} (rel : Rel σ env γ) (h : ∀ a, o = some a → ∃ b, r = .ok b σ.T ∧ Rr σ a b) : SimAt Rr σ env r (gOpt o γ) := by
  cases o with
  | none => trivial
  | some w => obtain ⟨d, rfl, h3⟩ := h w rfl; exact .here rel h3
end
theorem SimE.p {f : E} {g : GE} (h : SimE f g) : SimP f g := fun σ env γ r => by
  have := h σ env γ r
  revert this
  unfold SimAt
  cases g γ with
  | ok w γ => rintro ⟨d, σ', h1, h2, h3, h4⟩; exact ⟨d, σ', h1, h2, h3, h4.top⟩
  | exc C fs γ => exact id
  | stuck => exact id
/-! ### slots -/
theorem getSet {α : Type} {l : List α} {i j : Nat} {a b : α} (h : (l.set i a)[j]? = some b) : (i = j ∧ b = a) ∨ (i ≠ j ∧ l[j]? = some b) := by
  by_cases e : i = j
  · subst e
    rw [List.getElem?_set] at h
    simp only [if_true] at h
    split at h
    · cases h; exact .inl ⟨rfl, rfl⟩
    · cases h
  · rw [List.getElem?_set_ne e] at h; exact .inr ⟨e, h⟩
/-- a cell is no longer owned -/
def Wd.free (σ : Wd) (n : Nat) : Wd := ⟨fun k => σ.P k ∨ k = n, fun k => σ.A k ∧ k ≠ n, σ.T⟩
theorem le_free {σ : Wd} {n : Nat} (h : σ.A n) : Le σ (σ.free n) := ⟨Nat.le_refl _, fun _ h => .inl h, fun k q => q.elim .inl fun e => .inr (.inl (e ▸ h)), fun k q => .inl q.1, fun _ _ _ => rfl⟩
theorem ok_free {σ : Wd} {n : Nat} (o : σ.Ok) (h : σ.A n) : (σ.free n).Ok := ⟨fun k p a => p.elim (fun p => o.dis k p a.1) fun e => a.2 e, fun k p => p.elim (o.bP k) fun e => e ▸ o.bA n h, fun k a => o.bA k a.1⟩
theorem sub_free {σ : Wd} {n : Nat} : Sub σ (σ.free n) := ⟨fun _ h => .inl h, fun _ _ => rfl⟩
theorem rw_cell {σ : Wd} {n : Nat} {c c' : Cell} (hp : σ.P n) (h : σ.T[n]? = some c') (r : Rc σ c c') : Rw σ (cellW c) (.ref n) := by
  cases c with
  | lst ws => obtain ⟨ds, rfl, h2⟩ := r; exact ⟨n, ds, rfl, hp, h, h2⟩
  | dk ws => obtain ⟨ds, rfl, h1, h2⟩ := r; exact ⟨n, ds, rfl, hp, h, h1, h2⟩
theorem Rel.free {σ : Wd} {env : EnvD} {γ : Gn} {i n : Nat} {c : Cell} (r : Rel σ env γ) (h : γ[i]? = some (.ow c)) (he : env[i]? = some (some (.ref n))) : Rel (σ.free n) env (γ.set i (.vl (cellW c))) ∧ σ.A n ∧ Rw (σ.free n) (cellW c) (.ref n) := by
  obtain ⟨n', c', e1, e2, e3, e4⟩ := r.ow i c h
  rw [he] at e1
  cases e1
  have rc : Rw (σ.free n) (cellW c) (.ref n) := rw_cell (.inr rfl) e3 (Rc.sub sub_free e4)
  refine ⟨⟨ok_free r.ok e2, by simp [r.len], fun j w q => ?_, fun j d q => ?_, fun j k d d' m q1 q2 q3 q4 => ?_, r.bE⟩, e2, rc⟩
  · rcases getSet q with ⟨rfl, q2⟩ | ⟨_, q⟩
    · cases q2; exact ⟨_, he, rc⟩
    · obtain ⟨d, h1, h2⟩ := r.vl j w q; exact ⟨d, h1, Rw.sub sub_free _ _ h2⟩
  · rcases getSet q with ⟨_, q2⟩ | ⟨ne, q⟩
    · cases q2
    · obtain ⟨m, d', h1, h2, h3, h4⟩ := r.ow j d q
      exact ⟨m, d', h1, ⟨h2, fun e => by subst e; exact ne (r.inj i j _ _ _ h q he h1)⟩, h3, Rc.sub sub_free h4⟩
  · rcases getSet q1 with ⟨_, z⟩ | ⟨_, z1⟩
    · cases z
    · rcases getSet q2 with ⟨_, z⟩ | ⟨_, z2⟩
      · cases z
      · exact r.inj j k _ _ m z1 z2 q3 q4
def gVar (i : Nat) : GE := fun γ => match γ[i]? with
  | some (.vl w) => .ok w γ
  | some (.ow c) => .ok (cellW c) (γ.set i (.vl (cellW c)))
  | _ => .stuck
/-- without giving it away: to be used at once -/
def gPk (i : Nat) : GE := fun γ => match γ[i]? with
  | some (.vl w) => .ok w γ
  | some (.ow c) => .ok (cellW c) γ
  | _ => .stuck
theorem sim_var (i : Nat) : SimE (eVar i) (gVar i) := by
  intro σ env γ r
  unfold gVar eVar
  rcases h : γ[i]? with _ | ⟨_ | w | c⟩
  · trivial
  · trivial
  · obtain ⟨d, h1, h2⟩ := r.vl i w h
    rw [h1]; exact .here r h2
  · obtain ⟨n, c', h1, h2, h3, h4⟩ := r.ow i c h
    rw [h1]
    obtain ⟨r', hA, rc⟩ := r.free h h1
    exact .done (σ' := σ.free n) (le_free hA) r' rc
theorem sim_pk (i : Nat) : SimP (eVar i) (gPk i) := by
  intro σ env γ r
  unfold gPk eVar
  rcases h : γ[i]? with _ | ⟨_ | w | c⟩
  · trivial
  · trivial
  · obtain ⟨d, h1, h2⟩ := r.vl i w h
    rw [h1]; exact .here r h2.top
  · obtain ⟨n, c', h1, h2, h3, h4⟩ := r.ow i c h
    rw [h1]
    exact .here r (h4.top h3)
/-- the slot's value whenever it is read -/
theorem pk_at {σ : Wd} {env : EnvD} {γ : Gn} {i : Nat} {w : D} {γ' : Gn} (r : Rel σ env γ) (h : gPk i γ = .ok w γ') : γ' = γ ∧ ∃ d, env[i]? = some (some d) ∧ RwT σ w d := by
  unfold gPk at h
  split at h
  · rename_i u q; cases h
    obtain ⟨d, h1, h2⟩ := r.vl i _ q
    exact ⟨rfl, d, h1, h2.top⟩
  · rename_i c q; cases h
    obtain ⟨n, c', h1, h2, h3, h4⟩ := r.ow i c q
    exact ⟨rfl, _, h1, h4.top h3⟩
  · cases h
mutual
def plainD : D → Bool
  | .non => true
  | .bl _ => true
  | .int _ => true
  | .str _ => true
  | .fn _ => true
  | .lam _ => true
  | .tup ds => plainDs ds
  | _ => false
def plainDs : List D → Bool
  | [] => true
  | d :: ds => plainD d && plainDs ds
end
mutual
theorem rw_plain {σ : Wd} : ∀ d : D, plainD d = true → Rw σ d d
  | .non, _ => rfl
  | .bl _, _ => rfl
  | .int _, _ => rfl
  | .str _, _ => rfl
  | .fn _, _ => rfl
  | .lam _, _ => rfl
  | .tup ds, h => ⟨ds, rfl, rws_plain ds (by simpa [plainD] using h)⟩
  | .frl _, h => by simp [plainD] at h
  | .lsv _, h => by simp [plainD] at h
  | .ref _, h => by simp [plainD] at h
  | .dct _ _, h => by simp [plainD] at h
theorem rws_plain {σ : Wd} : ∀ ds : List D, plainDs ds = true → Rws σ ds ds
  | [], _ => rfl
  | d :: ds, h => by
    simp only [plainDs, Bool.and_eq_true] at h
    exact ⟨d, ds, rfl, rw_plain d h.1, rws_plain ds h.2⟩
end
def gC (d : D) : GE := fun γ => .ok d γ
theorem sim_c {d : D} (h : plainD d = true := by rfl) : SimE (eC d) (gC d) := fun σ env γ r => .here r (rw_plain d h)
/-! ### operations -/
def g1 (f : D → Option D) (a : GE) : GE := fun γ => (a γ).bind fun x γ1 => gOpt (f x) γ1
def g2 (f : D → D → Option D) (a b : GE) : GE := fun γ => (a γ).bind fun x γ1 => (b γ1).bind fun y γ2 => gOpt (f x y) γ2
/-- the first one a slot that is read behind the second one -/
def g2k (f : D → D → Option D) (i : Nat) (b : GE) : GE := fun γ => (gPk i γ).bind fun _ _ => (b γ).bind fun y γ1 => (gPk i γ1).bind fun x γ2 => gOpt (f x y) γ2
def gN (f : List D → Option D) (as : GA) : GE := fun γ => (as γ).bind fun xs γ1 => gOpt (f xs) γ1
def gN1 (f : List D → Option D) (a : GE) : GE := fun γ => (a γ).bind fun x γ1 => gOpt (f [x]) γ1
section
variable {f fa fb : E} {ga gb : GE} {fs : As} {gs : GA}
theorem sim_1 {v : D → Sto → R D} {w : D → Option D} (hw : W1 v w) (h : SimP fa ga) : SimE (e1 v fa) (g1 w ga) := fun σ env γ r =>
  (h σ env γ r).bind fun x d σ1 γ1 _ r1 rv => .ans r1 (hw σ1 x d r1.ok rv)
theorem sim_2 {v : D → D → Sto → R D} {w : D → D → Option D} (hw : W2 v w) (ha : SimE fa ga) (hb : SimP fb gb) : SimE (e2 v fa fb) (g2 w ga gb) := fun σ env γ r =>
  (ha σ env γ r).bind fun x d σ1 γ1 _ r1 rv => (hb σ1 env γ1 r1).bind fun y e σ2 γ2 l r2 ru => .ans r2 (hw σ2 x y d e r2.ok (Rw.sub (l.sub r1.ok) _ _ rv).top ru)
theorem sim_2k {v : D → D → Sto → R D} {w : D → D → Option D} {i : Nat} (hw : W2 v w) (hb : SimP fb gb) : SimE (e2 v (eVar i) fb) (g2k w i gb) := by
  intro σ env γ r
  unfold g2k
  cases hk0 : gPk i γ with
  | exc _ _ _ => unfold gPk at hk0; split at hk0 <;> cases hk0
  | stuck => trivial
  | ok x0 γ0 =>
    obtain ⟨_, d, hi, _⟩ := pk_at r hk0
    have e : e2 v (eVar i) fb env σ.T = (fb env σ.T).bind fun y S2 => v d y S2 := by unfold e2 eVar; rw [hi]; rfl
    rw [e]
    refine (hb σ env γ r).bind fun y e σ2 γ2 l r2 ru => ?_
    cases hk : gPk i γ2 with
    | ok x γ' =>
      obtain ⟨rfl, d', q1, q2⟩ := pk_at r2 hk
      rw [hi] at q1
      cases q1
      exact .ans r2 (hw σ2 x y d e r2.ok q2 ru)
    | exc _ _ _ => unfold gPk at hk; split at hk <;> cases hk
    | stuck => trivial
theorem sim_n {v : List D → Sto → R D} {w : List D → Option D} (hw : WN v w) (h : SimA fs gs) : SimE (eN v fs) (gN w gs) := fun σ env γ r =>
  (h σ env γ r).bind fun x d σ1 γ1 _ r1 rv => .ans r1 (hw σ1 x d r1.ok rv)
theorem sim_n1 {v : List D → Sto → R D} {w : List D → Option D} (hw : WN1 v w) (h : SimP fa ga) : SimE (eN v (aCons fa aNil)) (gN1 w ga) := by
  intro σ env γ r
  have e : eN v (aCons fa aNil) env σ.T = (fa env σ.T).bind fun x S => v [x] S := by
    unfold eN aCons aNil; cases fa env σ.T <;> rfl
  rw [e]
  exact (h σ env γ r).bind fun x d σ1 γ1 _ r1 rv => .ans r1 (hw σ1 x d r1.ok rv)
/-! ### arguments -/
def gaNil : GA := fun γ => .ok [] γ
def gaCons (a : GE) (r : GA) : GA := fun γ => (a γ).bind fun x γ1 => (r γ1).bind fun xs γ2 => .ok (x :: xs) γ2
def gaStar (a : GE) (r : GA) : GA := fun γ => (a γ).bind fun x γ1 => match itW x with
  | some ds => (r γ1).bind fun xs γ2 => .ok (ds ++ xs) γ2
  | none => .stuck
theorem sim_nil : SimA aNil gaNil := fun σ env γ r => .here r rfl
theorem sim_cons (ha : SimE fa ga) (h : SimA fs gs) : SimA (aCons fa fs) (gaCons ga gs) := fun σ env γ r =>
  (ha σ env γ r).bind fun x d σ1 γ1 _ r1 rv => (h σ1 env γ1 r1).bind fun xs ds σ2 γ2 l r2 ru => .here r2 ⟨d, ds, rfl, Rw.sub (l.sub r1.ok) _ _ rv, ru⟩
theorem sim_star (ha : SimE fa ga) (h : SimA fs gs) : SimA (aStar fa fs) (gaStar ga gs) := by
  intro σ env γ r
  refine (ha σ env γ r).bind fun x d σ1 γ1 _ r1 rv => ?_
  cases hx : itW x with
  | none => trivial
  | some ws =>
    have main : ∀ ds, Rws σ1 ws ds → SimAt Rws σ1 env ((fs env σ1.T).bind fun xs S2 => .ok (ds ++ xs) S2) ((gs γ1).bind fun xs γ2 => .ok (ws ++ xs) γ2) := fun ds rs =>
      (h σ1 env γ1 r1).bind fun xs es σ2 γ2 l r2 ru => .here r2 ((Rws.sub (l.sub r1.ok) _ _ rs).append ru)
    cases x <;> simp only [itW] at hx <;> try cases hx
    · obtain ⟨ds, rfl, h1⟩ := rv; exact main ds h1
    · obtain ⟨ds, rfl, h1⟩ := rv; exact main ds h1
    · obtain ⟨n, ds, rfl, q, q2, h1⟩ := rv
      have hn := Rws.noRefs r1.ok _ _ h1
      simp only [q2]
      have := main ds h1
      simpa only [hn, if_true] using this
/-! ### tests -/
def gTru (a : GE) : GT := fun γ => (a γ).bind fun x γ1 => gOpt (truD x []) γ1
def blO (d : D) : Option Bool := match d with
  | .bl b => some b
  | _ => none
def gBl (a : GE) : GT := fun γ => (a γ).bind fun x γ1 => gOpt (blO x) γ1
def gTNot (a : GT) : GT := fun γ => (a γ).bind fun b γ1 => .ok (!b) γ1
def gTAnd (a b : GT) : GT := fun γ => (a γ).bind fun k γ1 => if k = true then b γ1 else .ok false γ1
def gTOr (a b : GT) : GT := fun γ => (a γ).bind fun k γ1 => if k = true then .ok true γ1 else b γ1
def gTYes : GT := fun γ => .ok true γ
variable {c c' : T} {tc tc' : GT}
theorem truR_ok {σ : Wd} {env : EnvD} {γ : Gn} {x d : D} (r : Rel σ env γ) (rv : RwT σ x d) : SimAt (fun _ b c => c = b) σ env (truR d σ.T) (gOpt (truD x []) γ) := by
  refine .opt r fun b hb => ⟨b, ?_, rfl⟩
  unfold truR; rw [tru_ok rv hb]
theorem blR_ok {σ : Wd} {env : EnvD} {γ : Gn} {x d : D} (r : Rel σ env γ) (rv : RwT σ x d) : SimAt (fun _ b c => c = b) σ env (blR d σ.T) (gOpt (blO x) γ) := by
  refine .opt r fun b hb => ⟨b, ?_, rfl⟩
  cases x <;> simp only [blO] at hb <;> try cases hb
  have e : d = .bl _ := rv
  subst e; rfl
theorem sim_tof (h : SimP fa ga) : SimT (tOf fa) (gTru ga) := fun σ env γ r => (h σ env γ r).bind fun x d σ1 γ1 _ r1 rv => truR_ok r1 rv
theorem sim_tbl (h : SimP fa ga) : SimT (tBl fa) (gBl ga) := fun σ env γ r => (h σ env γ r).bind fun x d σ1 γ1 _ r1 rv => blR_ok r1 rv
theorem sim_tnot (h : SimT c tc) : SimT (tNot c) (gTNot tc) := fun σ env γ r => (h σ env γ r).bind fun x d σ1 γ1 _ r1 rv => by subst rv; exact .here r1 rfl
theorem sim_tand (h : SimT c tc) (h' : SimT c' tc') : SimT (tAnd c c') (gTAnd tc tc') := fun σ env γ r => (h σ env γ r).bind fun x d σ1 γ1 _ r1 rv => by
  subst rv; cases d
  · exact .here r1 rfl
  · exact h' σ1 env γ1 r1
theorem sim_tor (h : SimT c tc) (h' : SimT c' tc') : SimT (tOr c c') (gTOr tc tc') := fun σ env γ r => (h σ env γ r).bind fun x d σ1 γ1 _ r1 rv => by
  subst rv; cases d
  · exact h' σ1 env γ1 r1
  · exact .here r1 rfl
theorem sim_tyes : SimT tYesD gTYes := fun σ env γ r => .here r rfl
/-! ### choices -/
def gIf (c : GT) (a b : GE) : GE := fun γ => (c γ).bind fun k γ1 => if k = true then a γ1 else b γ1
def gAnd (a b : GE) : GE := fun γ => (a γ).bind fun x γ1 => (gOpt (truD x []) γ1).bind fun k γ2 => if k = true then b γ2 else .ok x γ2
def gOr (a b : GE) : GE := fun γ => (a γ).bind fun x γ1 => (gOpt (truD x []) γ1).bind fun k γ2 => if k = true then .ok x γ2 else b γ2
def gNot (a : GE) : GE := fun γ => (a γ).bind fun x γ1 => (gOpt (truD x []) γ1).bind fun k γ2 => .ok (.bl (!k)) γ2
theorem sim_if (h : SimT c tc) (ha : SimE fa ga) (hb : SimE fb gb) : SimE (eIf c fa fb) (gIf tc ga gb) := fun σ env γ r => (h σ env γ r).bind fun x d σ1 γ1 _ r1 rv => by
  subst rv; cases d
  · exact hb σ1 env γ1 r1
  · exact ha σ1 env γ1 r1
theorem sim_and (ha : SimE fa ga) (hb : SimE fb gb) : SimE (eAnd fa fb) (gAnd ga gb) := fun σ env γ r => (ha σ env γ r).bind fun x d σ1 γ1 _ r1 rv => (truR_ok r1 rv.top).bind fun k k' σ2 γ2 l r2 e => by
  subst e; cases k'
  · exact .here r2 (Rw.sub (l.sub r1.ok) _ _ rv)
  · exact hb σ2 env γ2 r2
theorem sim_or (ha : SimE fa ga) (hb : SimE fb gb) : SimE (eOr fa fb) (gOr ga gb) := fun σ env γ r => (ha σ env γ r).bind fun x d σ1 γ1 _ r1 rv => (truR_ok r1 rv.top).bind fun k k' σ2 γ2 l r2 e => by
  subst e; cases k'
  · exact hb σ2 env γ2 r2
  · exact .here r2 (Rw.sub (l.sub r1.ok) _ _ rv)
theorem sim_not (ha : SimP fa ga) : SimE (eNot fa) (gNot ga) := fun σ env γ r => (ha σ env γ r).bind fun x d σ1 γ1 _ r1 rv => (truR_ok r1 rv).bind fun k k' σ2 γ2 l r2 e => by
  subst e; exact .here r2 rfl
def gCh (g g' : D → D → Option D) (a b c : GE) : GE := fun γ => (a γ).bind fun x γ1 => (b γ1).bind fun y γ2 => (gOpt (g x y) γ2).bind fun z γ3 => (gOpt (blO z) γ3).bind fun k γ4 => if k = true then (c γ4).bind fun u γ5 => gOpt (g' y u) γ5 else .ok (.bl false) γ4
variable {fc : E} {gc : GE}
theorem sim_ch {v v' : D → D → Sto → R D} {w w' : D → D → Option D} (hw : W2 v w) (hw' : W2 v' w') (ha : SimE fa ga) (hb : SimE fb gb) (hc : SimP fc gc) : SimE (eCh v v' fa fb fc) (gCh w w' ga gb gc) := fun σ env γ r =>
  (ha σ env γ r).bind fun x d σ1 γ1 _ r1 rv => (hb σ1 env γ1 r1).bind fun y e σ2 γ2 l2 r2 ru =>
    (SimAt.ans r2 (hw σ2 x y d e r2.ok (Rw.sub (l2.sub r1.ok) _ _ rv).top ru.top)).bind fun z z' σ3 γ3 l3 r3 rz => (blR_ok r3 rz.top).bind fun k k' σ4 γ4 l4 r4 e4 => by
      subst e4; cases k'
      · exact .here r4 rfl
      · exact (hc σ4 env γ4 r4).bind fun u u' σ5 γ5 l5 r5 r5u => .ans r5 (hw' σ5 y u e u' r5.ok (Rw.sub ((l3.trans (l4.trans l5)).sub r2.ok) _ _ ru).top r5u)
/-! ### slices -/
def goNone : GO := fun γ => .ok none γ
def inO : D → Option (Option Int)
  | .int i => some (some i)
  | _ => none
def goSome (a : GE) : GO := fun γ => (a γ).bind fun x γ1 => gOpt (inO x) γ1
theorem sim_onone : SimO oNone goNone := fun σ env γ r => .here r rfl
theorem sim_osome (h : SimE fa ga) : SimO (oSome fa) (goSome ga) := fun σ env γ r => (h σ env γ r).bind fun x d σ1 γ1 _ r1 rv => .opt r1 fun b hb => by
  cases x <;> simp only [inO] at hb <;> try cases hb
  have e : d = .int _ := rv
  subst e; exact ⟨_, rfl, rfl⟩
def gSl (a : GE) (l u : GO) : GE := fun γ => (a γ).bind fun x γ1 => (l γ1).bind fun i γ2 => (u γ2).bind fun j γ3 => gOpt (wSl x i j) γ3
variable {fl fu : O} {gl gu : GO}
theorem sim_sl (ha : SimE fa ga) (hl : SimO fl gl) (hu : SimO fu gu) : SimE (eSl fa fl fu) (gSl ga gl gu) := fun σ env γ r =>
  (ha σ env γ r).bind fun x d σ1 γ1 _ r1 rv => (hl σ1 env γ1 r1).bind fun i i' σ2 γ2 l2 r2 e2 => (hu σ2 env γ2 r2).bind fun j j' σ3 γ3 l3 r3 e3 => by
    subst e2 e3
    exact .ans r3 (w_sl r3.ok (Rw.sub ((l2.trans l3).sub r1.ok) _ _ rv).top)
/-- of a slot whose bounds are told without any change -/
def gSlk (i : Nat) (l u : GO) : GE := fun γ => (gPk i γ).bind fun _ _ => (l γ).bind fun a γ2 => (u γ2).bind fun j γ3 => (gPk i γ3).bind fun x γ4 => gOpt (wSl x a j) γ4
theorem sim_slk {i : Nat} (hl : SimO fl gl) (hu : SimO fu gu) : SimE (eSl (eVar i) fl fu) (gSlk i gl gu) := by
  intro σ env γ r
  unfold gSlk
  cases hk0 : gPk i γ with
  | exc _ _ _ => unfold gPk at hk0; split at hk0 <;> cases hk0
  | stuck => trivial
  | ok x0 γ0 =>
    obtain ⟨_, d, hi, _⟩ := pk_at r hk0
    have e : eSl (eVar i) fl fu env σ.T = (fl env σ.T).bind fun l S2 => (fu env S2).bind fun u S3 => vSl d l u S3 := by unfold eSl eVar; rw [hi]; rfl
    rw [e]
    refine (hl σ env γ r).bind fun a a' σ2 γ2 l2 r2 e2 => (hu σ2 env γ2 r2).bind fun j j' σ3 γ3 l3 r3 e3 => ?_
    subst e2 e3
    cases hk : gPk i γ3 with
    | ok x γ' =>
      obtain ⟨rfl, d', q1, q2⟩ := pk_at r3 hk
      rw [hi] at q1
      cases q1
      exact .ans r3 (w_sl r3.ok q2)
    | exc _ _ _ => unfold gPk at hk; split at hk <;> cases hk
    | stuck => trivial
/-! ### methods -/
def gM (t : String) (f : D → List D → Option D) (a : GE) (as : GA) : GE := fun γ => (a γ).bind fun x γ1 => if tyN x [] = some t then (as γ1).bind fun xs γ2 => gOpt (f x xs) γ2 else .stuck
theorem sim_m {t : String} {v : D → List D → Sto → R D} {w : D → List D → Option D} (hw : WM v w) (ha : SimE fa ga) (h : SimA fs gs) : SimE (eM t v fa fs) (gM t w ga gs) := fun σ env γ r =>
  (ha σ env γ r).bind fun x d σ1 γ1 _ r1 rv => by
    by_cases ht : tyN x [] = some t
    · rw [if_pos ht, if_pos (ty_ok rv.top ht)]
      exact (h σ1 env γ1 r1).bind fun xs ds σ2 γ2 l r2 ru => .ans r2 (hw σ2 x d xs ds r2.ok (Rw.sub (l.sub r1.ok) _ _ rv).top ru)
    · rw [if_neg ht]; trivial
end
end Fz

/-! Gz4: new lists that a slot owns; targets; statements; loops. -/
namespace Fz
open PySem PySem.Spec PyProof.Rows L2

/-! ### a new cell -/
def SimFrAt (σ : Wd) (env : EnvD) (r : R D) (q : RG D) : Prop := match q with
  | .ok w γ => ∃ n c c' σ', r = .ok (.ref n) σ'.T ∧ Le σ σ' ∧ Rel σ' env γ ∧ w = cellW c ∧ σ'.A n ∧ σ'.T[n]? = some c' ∧ Rc σ' c c' ∧ σ.T.length ≤ n ∧ ∀ (i : Nat) (e : Cell), γ[i]? = some (.ow e) → env[i]? ≠ some (some (.ref n))
  | .exc C fs γ => ∃ gs σ', r = .exc C gs σ'.T ∧ Le σ σ' ∧ Rel σ' env γ ∧ fs.map (·.1) = gs.map (·.1) ∧ Rws σ' (fs.map (·.2)) (gs.map (·.2))
  | .stuck => True
abbrev SimFr (f : E) (g : GE) : Prop := ∀ σ env γ, Rel σ env γ → SimFrAt σ env (f env σ.T) (g γ)
/-- a new cell that a slot owns -/
def Wd.pushA (σ : Wd) (c : Cell) : Wd := ⟨σ.P, fun n => σ.A n ∨ n = σ.T.length, σ.T ++ [c]⟩
theorem le0_pushA {σ : Wd} (o : σ.Ok) (c : Cell) : Le0 σ (σ.pushA c) :=
  ⟨⟨by simp [Wd.pushA], fun n h => h, fun n h => .inl h, fun n h => h.elim .inl fun e => .inr (by omega), fun n h _ => List.getElem?_append_left h⟩,
    ⟨fun n h a => a.elim (fun p => o.dis n h p) fun e => by have := o.bP n h; omega, fun n h => by
      show n < (σ.T ++ [c]).length
      rw [List.length_append]; have := o.bP n h; omega, fun n h => by
      show n < (σ.T ++ [c]).length
      rw [List.length_append]
      rcases h with h | h
      · have := o.bA n h; simp; omega
      · simp; omega⟩,
    fun n h => .inl h, fun n h => List.getElem?_append_left h⟩
theorem pushA_at (σ : Wd) (c : Cell) : (σ.pushA c).T[σ.T.length]? = some c := by simp [Wd.pushA]
theorem own_lt {σ : Wd} {env : EnvD} {γ : Gn} (r : Rel σ env γ) {i : Nat} {c : Cell} {n : Nat} (h : γ[i]? = some (.ow c)) (e : env[i]? = some (some (.ref n))) : n < σ.T.length := by
  obtain ⟨m, c', h1, h2, _⟩ := r.ow i c h
  rw [e] at h1; cases h1; exact r.ok.bA _ h2
theorem SimFrAt.anf {σ : Wd} {env : EnvD} {γ : Gn} {r : R D} {o : Option D} (rel : Rel σ env γ) (h : Anf σ r o) : SimFrAt σ env r (gOpt o γ) := by
  cases o with
  | none => trivial
  | some w =>
    obtain ⟨ws, ds, rfl, rfl, h3⟩ := h w rfl
    have l := le0_pushA rel.ok (.lst ds)
    exact ⟨σ.T.length, .lst ws, .lst ds, σ.pushA (.lst ds), rfl, l.toLe, rel.more l, rfl, .inr rfl, pushA_at _ _, ⟨ds, rfl, Rws.sub (l.toLe.sub rel.ok) _ _ h3⟩, Nat.le_refl _, fun i e q z => by
      have := own_lt rel q z; omega⟩
theorem SimFrAt.le {σ σ1 : Wd} {env : EnvD} {r : R D} {q : RG D} (l : Le σ σ1) (h : SimFrAt σ1 env r q) : SimFrAt σ env r q := by
  cases q with
  | ok w γ => obtain ⟨n, c, c', σ', h1, h2, h3, h4, h5, h6, h7, h8, h9⟩ := h; exact ⟨n, c, c', σ', h1, l.trans h2, h3, h4, h5, h6, h7, Nat.le_trans l.ln h8, h9⟩
  | exc C fs γ => obtain ⟨gs, σ', h1, h2, h3⟩ := h; exact ⟨gs, σ', h1, l.trans h2, h3⟩
  | stuck => trivial
theorem SimAt.bindFr {α β : Type} {R1 : Wd → α → β → Prop} {σ : Wd} {env : EnvD} {r : R β} {q : RG α} {kf : β → Sto → R D} {kg : α → Gn → RG D}
    (h : SimAt R1 σ env r q) (k : ∀ w d σ1 γ1, Le σ σ1 → Rel σ1 env γ1 → R1 σ1 w d → SimFrAt σ1 env (kf d σ1.T) (kg w γ1)) : SimFrAt σ env (r.bind kf) (q.bind kg) := by
  cases q with
  | ok w γ => obtain ⟨d, σ', rfl, h2, h3, h4⟩ := h; exact (k w d σ' γ h2 h3 h4).le h2
  | exc C fs γ => obtain ⟨gs, σ', rfl, h2⟩ := h; exact ⟨gs, σ', rfl, h2⟩
  | stuck => trivial
/-- given to values -/
theorem SimFr.e {f : E} {g : GE} (h : SimFr f g) : SimE f g := fun σ env γ r => by
  have := h σ env γ r
  revert this
  unfold SimFrAt SimAt
  cases g γ with
  | ok w γ' =>
    rintro ⟨n, c, c', σ', h1, h2, h3, rfl, h5, h6, h7, h8, h9⟩
    refine ⟨_, σ'.free n, h1, h2.trans (le_free h5), ?_, rw_cell (.inr rfl) h6 (Rc.sub sub_free h7)⟩
    refine ⟨ok_free h3.ok h5, h3.len, fun j w q => ?_, fun j d q => ?_, h3.inj, h3.bE⟩
    · obtain ⟨d, h1, h2⟩ := h3.vl j w q; exact ⟨d, h1, Rw.sub sub_free _ _ h2⟩
    · obtain ⟨m, d', q1, q2, q3, q4⟩ := h3.ow j d q
      exact ⟨m, d', q1, ⟨q2, fun e => by subst e; exact h9 j d q q1⟩, q3, Rc.sub sub_free q4⟩
  | exc C fs γ => exact id
  | stuck => exact id
section
variable {f fa fb : E} {ga gb : GE} {fs : As} {gs : GA} {fl fu : O} {gl gu : GO}
theorem fr_2 {v : D → D → Sto → R D} {w : D → D → Option D} (hw : W2f v w) (ha : SimE fa ga) (hb : SimP fb gb) : SimFr (e2 v fa fb) (g2 w ga gb) := fun σ env γ r =>
  (ha σ env γ r).bindFr fun x d σ1 γ1 _ r1 rv => (hb σ1 env γ1 r1).bindFr fun y e σ2 γ2 l r2 ru => .anf r2 (hw σ2 x y d e r2.ok (Rw.sub (l.sub r1.ok) _ _ rv).top ru)
theorem fr_n {v : List D → Sto → R D} {w : List D → Option D} (hw : WNf v w) (h : SimA fs gs) : SimFr (eN v fs) (gN w gs) := fun σ env γ r =>
  (h σ env γ r).bindFr fun x d σ1 γ1 _ r1 rv => .anf r1 (hw σ1 x d r1.ok rv)
def WN1f (f : List D → Sto → R D) (g : List D → Option D) : Prop := ∀ (σ : Wd) (w d : D), σ.Ok → RwT σ w d → Anf σ (f [d] σ.T) (g [w])
theorem fr_n1 {v : List D → Sto → R D} {w : List D → Option D} (hw : WN1f v w) (h : SimP fa ga) : SimFr (eN v (aCons fa aNil)) (gN1 w ga) := by
  intro σ env γ r
  have e : eN v (aCons fa aNil) env σ.T = (fa env σ.T).bind fun x S => v [x] S := by
    unfold eN aCons aNil; cases fa env σ.T <;> rfl
  rw [e]
  exact (h σ env γ r).bindFr fun x d σ1 γ1 _ r1 rv => .anf r1 (hw σ1 x d r1.ok rv)
theorem fr_list (h : SimP fa ga) : SimFr (eN vList (aCons fa aNil)) (gN1 wList ga) := fr_n1 (fun _ _ _ o r => w_list o r) h
def gSlL (a : GE) (l u : GO) : GE := fun γ => (a γ).bind fun x γ1 => (l γ1).bind fun i γ2 => (u γ2).bind fun j γ3 => gOpt (wSlL x i j) γ3
theorem fr_sl (ha : SimE fa ga) (hl : SimO fl gl) (hu : SimO fu gu) : SimFr (eSl fa fl fu) (gSlL ga gl gu) := fun σ env γ r =>
  (ha σ env γ r).bindFr fun x d σ1 γ1 _ r1 rv => (hl σ1 env γ1 r1).bindFr fun i i' σ2 γ2 l2 r2 e2 => (hu σ2 env γ2 r2).bindFr fun j j' σ3 γ3 l3 r3 e3 => by
    subst e2 e3
    exact .anf r3 (w_slL r3.ok (Rw.sub ((l2.trans l3).sub r1.ok) _ _ rv).top)
end
/-! ### targets -/
abbrev GTg := D → Gn → Option Gn
abbrev GTgs := List D → Gn → Option Gn
/-- the slots that are the caller's own -/
def pfl (l : List Bool) : Nat → Prop := fun i => l[i]? = some true
/-- all slots but some -/
def nv (vs : List Nat) : Nat → Prop := fun i => i ∉ vs
def keep (fl : Nat → Prop) (env env' : EnvD) : Prop := ∀ i : Nat, fl i → env'[i]? = env[i]?
theorem keep.refl (fl : Nat → Prop) (env : EnvD) : keep fl env env := fun _ _ => rfl
theorem keep.trans {fl : Nat → Prop} {a b c : EnvD} (h : keep fl a b) (k : keep fl b c) : keep fl a c := fun i e => (k i e).trans (h i e)
abbrev Free (fl : Nat → Prop) (i : Nat) : Prop := ¬ fl i
instance (l : List Bool) (i : Nat) : Decidable (pfl l i) := by unfold pfl; infer_instance
instance (l : List Nat) (i : Nat) : Decidable (nv l i) := by unfold nv; infer_instance
theorem keep.set {fl : Nat → Prop} {i : Nat} (h : Free fl i) (env : EnvD) (o : Option D) : keep fl env (env.set i o) := fun j e => by
  by_cases z : i = j
  · subst z; exact absurd e h
  · rw [List.getElem?_set_ne z]
theorem Rel.set {σ : Wd} {env : EnvD} {γ : Gn} {w d : D} (r : Rel σ env γ) (i : Nat) (h : Rw σ w d) : Rel σ (env.set i (some d)) (γ.set i (.vl w)) := by
  refine ⟨r.ok, by simp [r.len], fun j u q => ?_, fun j c q => ?_, fun j k c c' m q1 q2 q3 q4 => ?_, fun j u q => ?_⟩
  · rcases getSet q with ⟨rfl, z⟩ | ⟨ne, q⟩
    · cases z
      have hi : i < env.length := by
        rw [r.len]
        rcases Nat.lt_or_ge i γ.length with z | z
        · exact z
        · rw [List.getElem?_eq_none (by simpa using z)] at q; cases q
      exact ⟨d, by rw [List.getElem?_set_self hi], h⟩
    · obtain ⟨e, h1, h2⟩ := r.vl j u q; exact ⟨e, by rw [List.getElem?_set_ne ne]; exact h1, h2⟩
  · rcases getSet q with ⟨_, z⟩ | ⟨ne, q⟩
    · cases z
    · obtain ⟨n, c', h1, h2⟩ := r.ow j c q; exact ⟨n, c', by rw [List.getElem?_set_ne ne]; exact h1, h2⟩
  · rcases getSet q1 with ⟨_, z⟩ | ⟨n1, q1⟩
    · cases z
    · rcases getSet q2 with ⟨_, z⟩ | ⟨n2, q2⟩
      · cases z
      · rw [List.getElem?_set_ne n1] at q3; rw [List.getElem?_set_ne n2] at q4
        exact r.inj j k c c' m q1 q2 q3 q4
  · rcases getSet q with ⟨_, z⟩ | ⟨ne, q⟩
    · cases z; exact h.noRef r.ok
    · exact r.bE j u q
theorem Rel.setO {σ : Wd} {env : EnvD} {γ : Gn} {c c' : Cell} {n : Nat} (r : Rel σ env γ) (i : Nat) (hA : σ.A n) (hn : σ.T[n]? = some c') (hc : Rc σ c c') (hx : ∀ (j : Nat) (e : Cell), γ[j]? = some (.ow e) → env[j]? ≠ some (some (.ref n))) : Rel σ (env.set i (some (.ref n))) (γ.set i (.ow c)) := by
  refine ⟨r.ok, by simp [r.len], fun j u q => ?_, fun j c q => ?_, fun j k d d' m q1 q2 q3 q4 => ?_, fun j u q => ?_⟩
  · rcases getSet q with ⟨_, z⟩ | ⟨ne, q⟩
    · cases z
    · obtain ⟨e, h1, h2⟩ := r.vl j u q; exact ⟨e, by rw [List.getElem?_set_ne ne]; exact h1, h2⟩
  · rcases getSet q with ⟨rfl, z⟩ | ⟨ne, q⟩
    · cases z
      have hi : i < env.length := by
        rw [r.len]
        rcases Nat.lt_or_ge i γ.length with z | z
        · exact z
        · rw [List.getElem?_eq_none (by simpa using z)] at q; cases q
      exact ⟨n, c', by rw [List.getElem?_set_self hi], hA, hn, hc⟩
    · obtain ⟨n, c', h1, h2⟩ := r.ow j c q; exact ⟨n, c', by rw [List.getElem?_set_ne ne]; exact h1, h2⟩
  · rcases getSet q1 with ⟨e1, z1⟩ | ⟨n1, q1⟩ <;> rcases getSet q2 with ⟨e2, z2⟩ | ⟨n2, q2⟩
    · exact e1.symm.trans e2
    · subst e1
      rw [List.getElem?_set_ne n2] at q4
      rw [List.getElem?_set] at q3
      simp only [if_true] at q3
      split at q3
      · cases q3; exact absurd q4 (hx k d' q2)
      · cases q3
    · subst e2
      rw [List.getElem?_set_ne n1] at q3
      rw [List.getElem?_set] at q4
      simp only [if_true] at q4
      split at q4
      · cases q4; exact absurd q3 (hx j d q1)
      · cases q4
    · rw [List.getElem?_set_ne n1] at q3; rw [List.getElem?_set_ne n2] at q4
      exact r.inj j k _ _ m q1 q2 q3 q4
  · rcases getSet q with ⟨_, z⟩ | ⟨ne, q⟩
    · cases z; simp only [noRef, decide_eq_true_eq]; exact r.ok.bA n hA
    · exact r.bE j u q
/-- the cell that slot i owns is written -/
def Wd.wr (σ : Wd) (n : Nat) (c : Cell) : Wd := ⟨σ.P, σ.A, σ.T.set n c⟩
theorem Rel.wr {σ : Wd} {env : EnvD} {γ : Gn} {i n : Nat} {c0 c c' : Cell} (r : Rel σ env γ) (h : γ[i]? = some (.ow c0)) (he : env[i]? = some (some (.ref n))) (hc : Rc σ c c') :
    Le σ (σ.wr n c') ∧ Rel (σ.wr n c') env (γ.set i (.ow c)) := by
  obtain ⟨n', c1, e1, e2, e3, e4⟩ := r.ow i c0 h
  rw [he] at e1
  cases e1
  have sb : Sub σ (σ.wr n c') := ⟨fun _ h => h, fun k hk => by show (σ.T.set n c')[k]? = _; exact List.getElem?_set_ne (fun (z : n = k) => r.ok.dis k hk (by rw [← z]; exact e2))⟩
  refine ⟨⟨by simp [Wd.wr], fun _ h => h, fun _ h => .inl h, fun _ h => .inl h, fun k hk na => by show (σ.T.set n c')[k]? = _; exact List.getElem?_set_ne (fun (z : n = k) => na (by rw [← z]; exact e2))⟩, ?_⟩
  refine ⟨⟨r.ok.dis, fun k h => by show k < (σ.T.set n c').length; simp; exact r.ok.bP k h, fun k h => by show k < (σ.T.set n c').length; simp; exact r.ok.bA k h⟩, by simp [r.len], fun j u q => ?_, fun j d q => ?_, fun j k d d' m q1 q2 q3 q4 => ?_, fun j u q => by show noRef (σ.T.set n c').length u = true; simp; exact r.bE j u q⟩
  · rcases getSet q with ⟨_, z⟩ | ⟨ne, q⟩
    · cases z
    · obtain ⟨e, h1, h2⟩ := r.vl j u q; exact ⟨e, h1, Rw.sub sb _ _ h2⟩
  · rcases getSet q with ⟨rfl, z⟩ | ⟨ne, q⟩
    · cases z
      exact ⟨n, c', he, e2, by show (σ.T.set n c')[n]? = _; rw [List.getElem?_set_self (r.ok.bA n e2)], Rc.sub sb hc⟩
    · obtain ⟨m, c2, h1, h2, h3, h4⟩ := r.ow j d q
      exact ⟨m, c2, h1, h2, by show (σ.T.set n c')[m]? = _; rw [List.getElem?_set_ne fun e => by subst e; exact ne (r.inj i j _ _ _ h q he h1)]; exact h3, Rc.sub sb h4⟩
  · have hh : ∀ {l : Nat} {e : Cell}, (γ.set i (.ow c))[l]? = some (.ow e) → ∃ e', γ[l]? = some (.ow e') := by
      intro l e q
      rcases getSet q with ⟨rfl, _⟩ | ⟨_, q⟩
      · exact ⟨_, h⟩
      · exact ⟨_, q⟩
    obtain ⟨_, z1⟩ := hh q1
    obtain ⟨_, z2⟩ := hh q2
    exact r.inj j k _ _ m z1 z2 q3 q4
structure SimG (fl : Nat → Prop) (t : Tg) (g : GTg) : Prop where
  run : ∀ (σ : Wd) (env : EnvD) (γ γ' : Gn) (w d : D), Rel σ env γ → Rw σ w d → g w γ = some γ' → ∃ env' σ', t d env σ.T = .ok env' σ'.T ∧ Le σ σ' ∧ Rel σ' env' γ' ∧ keep fl env env' ∧ env'.length = env.length
structure SimGs (fl : Nat → Prop) (t : Tgs) (g : GTgs) : Prop where
  run : ∀ (σ : Wd) (env : EnvD) (γ γ' : Gn) (ws ds : List D), Rel σ env γ → Rws σ ws ds → g ws γ = some γ' → ∃ env' σ', t ds env σ.T = .ok env' σ'.T ∧ Le σ σ' ∧ Rel σ' env' γ' ∧ keep fl env env' ∧ env'.length = env.length
def tNm (i : Nat) : GTg := fun w γ => some (γ.set i (.vl w))
def tsNil : GTgs := fun ws γ => match ws with
  | [] => some γ
  | _ => none
def tsCons (g : GTg) (r : GTgs) : GTgs := fun ws γ => match ws with
  | w :: ws => (g w γ).bind fun γ1 => r ws γ1
  | [] => none
def tTp (n : Nat) (g : GTgs) : GTg := fun w γ => match w with
  | .tup ws => if ws.length = n then g ws γ else none
  | _ => none
def tTl (n : Nat) (g : GTgs) : GTg := fun w γ => match itW w with
  | some ws => if ws.length = n then g ws γ else none
  | none => none
section
variable {fl : Nat → Prop}
theorem sg_nm {i : Nat} (h : Free fl i := by decide) : SimG fl (gNm i) (tNm i) := ⟨fun σ env γ γ' w d r rv e => by cases e; exact ⟨_, σ, rfl, .refl σ, r.set i rv, keep.set h _ _, by simp⟩⟩
theorem sgs_nil : SimGs fl gsNil tsNil := ⟨fun σ env γ γ' ws ds r rv e => by
  cases ws with
  | nil => have q : ds = [] := rv; subst q; cases e; exact ⟨env, σ, rfl, .refl σ, r, keep.refl _ _, rfl⟩
  | cons w ws => cases e⟩
theorem sgs_cons {t : Tg} {g : GTg} {ts : Tgs} {gs : GTgs} (h : SimG fl t g) (hs : SimGs fl ts gs) : SimGs fl (gsCons t ts) (tsCons g gs) := ⟨fun σ env γ γ' ws ds r rv e => by
  cases ws with
  | nil => cases e
  | cons w ws =>
    obtain ⟨d, dr, rfl, h1, h2⟩ := rv
    obtain ⟨γ1, q1, q2⟩ := Option.bind_eq_some_iff.mp e
    obtain ⟨env1, σ1, e1, l1, r1, k1, n1⟩ := h.run σ env γ γ1 w d r h1 q1
    obtain ⟨env2, σ2, e2, l2, r2, k2, n2⟩ := hs.run σ1 env1 γ1 γ' ws dr r1 (Rws.sub (l1.sub r.ok) _ _ h2) q2
    exact ⟨env2, σ2, by unfold gsCons; simp only [e1, R.bind, e2], l1.trans l2, r2, k1.trans k2, n2.trans n1⟩⟩
theorem sg_tp {n : Nat} {ts : Tgs} {gs : GTgs} (hs : SimGs fl ts gs) : SimG fl (gTp n ts) (tTp n gs) := ⟨fun σ env γ γ' w d r rv e => by
  unfold tTp at e
  split at e
  · rename_i ws
    obtain ⟨ds, rfl, h2⟩ := rv
    split at e
    · rename_i hn
      obtain ⟨env', σ', e1, r1⟩ := hs.run σ env γ γ' ws ds r h2 e
      exact ⟨env', σ', by unfold gTp; simp only [← h2.length, hn, if_true, e1], r1⟩
    · cases e
  · cases e⟩
theorem sg_tl {n : Nat} {ts : Tgs} {gs : GTgs} (hs : SimGs fl ts gs) : SimG fl (gTl n ts) (tTl n gs) := ⟨fun σ env γ γ' w d r rv e => by
  unfold tTl at e
  split at e
  · rename_i ws hw
    split at e
    · rename_i hn
      have main : ∀ ds, Rws σ ws ds → ∃ env' σ', (if ds.length = n then ts ds env σ.T else .stuck) = .ok env' σ'.T ∧ Le σ σ' ∧ Rel σ' env' γ' ∧ keep fl env env' ∧ env'.length = env.length := fun ds h2 => by
        obtain ⟨env', σ', e1, r1⟩ := hs.run σ env γ γ' ws ds r h2 e
        exact ⟨env', σ', by rw [if_pos (by rw [← h2.length]; exact hn), e1], r1⟩
      cases w <;> simp only [itW] at hw <;> try cases hw
      · obtain ⟨ds, rfl, h1⟩ := rv; exact main ds h1
      · obtain ⟨ds, rfl, h1⟩ := rv; exact main ds h1
      · obtain ⟨k, ds, rfl, q, q2, h1⟩ := rv
        have := main ds h1
        unfold gTl lstOf
        simp only [q2]
        exact this
    · cases e
  · cases e⟩
end
/-! ### statements -/
inductive GFl where
  | nx (γ : Gn) | rt (w : D) (γ : Gn) | bk (γ : Gn) | ct (γ : Gn) | exc (C : Str) (fs : List (Str × D)) (γ : Gn) | stuck
abbrev GS := Gn → GFl
def RG.fl {α : Type} (r : RG α) (k : α → Gn → GFl) : GFl := match r with
  | .ok a γ => k a γ
  | .exc C fs γ => .exc C fs γ
  | .stuck => .stuck
def RG.fl0 {α : Type} (r : RG α) (k : α → Gn → GFl) : GFl := match r with
  | .ok a γ => k a γ
  | _ => .stuck
/-- what is given back: a value, or a new cell -/
def RetOk (fr : Bool) (n0 : Nat) (σ : Wd) (w d : D) : Prop := if fr = true then ∃ n c c', d = .ref n ∧ w = cellW c ∧ σ.A n ∧ σ.T[n]? = some c' ∧ Rc σ c c' ∧ n0 ≤ n else Rw σ w d
def SimSAt (fl : Nat → Prop) (fr : Bool) (n0 : Nat) (σ : Wd) (env : EnvD) (r : Fl) (q : GFl) : Prop := match q with
  | .nx γ => ∃ env' σ', r = .nx env' σ'.T ∧ Le σ σ' ∧ Rel σ' env' γ ∧ keep fl env env'
  | .bk γ => ∃ env' σ', r = .bk env' σ'.T ∧ Le σ σ' ∧ Rel σ' env' γ ∧ keep fl env env'
  | .ct γ => ∃ env' σ', r = .ct env' σ'.T ∧ Le σ σ' ∧ Rel σ' env' γ ∧ keep fl env env'
  | .rt w γ => ∃ d env' σ', r = .rt d σ'.T ∧ Le σ σ' ∧ Rel σ' env' γ ∧ keep fl env env' ∧ RetOk fr n0 σ' w d
  | .exc C fs γ => ∃ gs env' σ', r = .exc C gs σ'.T ∧ Le σ σ' ∧ Rel σ' env' γ ∧ keep fl env env' ∧ fs.map (·.1) = gs.map (·.1) ∧ Rws σ' (fs.map (·.2)) (gs.map (·.2))
  | .stuck => True
def SimS (fl : Nat → Prop) (fr : Bool) (f : Sm) (g : GS) : Prop := ∀ n0 σ env γ, n0 ≤ σ.T.length → Rel σ env γ → SimSAt fl fr n0 σ env (f env σ.T) (g γ)
section
variable {fl : Nat → Prop} {fr : Bool} {n0 : Nat} {σ : Wd} {env : EnvD}
theorem SimSAt.le {σ1 : Wd} {env1 : EnvD} {r : Fl} {q : GFl} (l : Le σ σ1) (k : keep fl env env1) (h : SimSAt fl fr n0 σ1 env1 r q) : SimSAt fl fr n0 σ env r q := by
  cases q with
  | nx γ => obtain ⟨e, s, h1, h2, h3, h4⟩ := h; exact ⟨e, s, h1, l.trans h2, h3, k.trans h4⟩
  | bk γ => obtain ⟨e, s, h1, h2, h3, h4⟩ := h; exact ⟨e, s, h1, l.trans h2, h3, k.trans h4⟩
  | ct γ => obtain ⟨e, s, h1, h2, h3, h4⟩ := h; exact ⟨e, s, h1, l.trans h2, h3, k.trans h4⟩
  | rt w γ => obtain ⟨d, e, s, h1, h2, h3, h4, h5⟩ := h; exact ⟨d, e, s, h1, l.trans h2, h3, k.trans h4, h5⟩
  | exc C fs γ => obtain ⟨d, e, s, h1, h2, h3, h4, h5⟩ := h; exact ⟨d, e, s, h1, l.trans h2, h3, k.trans h4, h5⟩
  | stuck => trivial
theorem SimAt.flw {α β : Type} {R1 : Wd → α → β → Prop} {r : R β} {q : RG α} {kf : β → Sto → Fl} {kg : α → Gn → GFl} (hn : n0 ≤ σ.T.length)
    (h : SimAt R1 σ env r q) (k : ∀ w d σ1 γ1, Le σ σ1 → n0 ≤ σ1.T.length → Rel σ1 env γ1 → R1 σ1 w d → SimSAt fl fr n0 σ1 env (kf d σ1.T) (kg w γ1)) : SimSAt fl fr n0 σ env (r.fl kf) (q.fl kg) := by
  cases q with
  | ok w γ => obtain ⟨d, σ', rfl, h2, h3, h4⟩ := h; exact (k w d σ' γ h2 (Nat.le_trans hn h2.ln) h3 h4).le h2 (keep.refl _ _)
  | exc C fs γ => obtain ⟨gs, σ', rfl, h2, h3, h4⟩ := h; exact ⟨gs, env, σ', rfl, h2, h3, keep.refl _ _, h4⟩
  | stuck => trivial
variable {f fa fb : E} {ga gb : GE} {c : T} {tc : GT} {a b : Sm} {sa sb : GS}
def qNil : GS := fun γ => .nx γ
def qSeq (a b : GS) : GS := fun γ => match a γ with
  | .nx γ' => b γ'
  | r => r
def qExpr (a : GE) : GS := fun γ => (a γ).fl fun _ γ1 => .nx γ1
def qRet (a : GE) : GS := fun γ => (a γ).fl fun w γ1 => .rt w γ1
def qRetN : GS := fun γ => .rt .non γ
def qBrk : GS := fun γ => .bk γ
def qCnt : GS := fun γ => .ct γ
def qStuck : GS := fun _ => .stuck
def qIf (c : GT) (a b : GS) : GS := fun γ => (c γ).fl fun k γ1 => if k = true then a γ1 else b γ1
theorem sim_snil : SimS fl fr sNil qNil := fun n0 σ env γ _ r => ⟨env, σ, rfl, .refl σ, r, keep.refl _ _⟩
theorem sim_seq (ha : SimS fl fr a sa) (hb : SimS fl fr b sb) : SimS fl fr (sSeq a b) (qSeq sa sb) := fun n0 σ env γ hn r => by
  have := ha n0 σ env γ hn r
  unfold sSeq qSeq
  revert this
  cases sa γ with
  | nx γ' => rintro ⟨e, s, h1, h2, h3, h4⟩; rw [h1]; exact (hb n0 s e γ' (Nat.le_trans hn h2.ln) h3).le h2 h4
  | bk γ' => rintro ⟨e, s, h1, h2⟩; rw [h1]; exact ⟨e, s, rfl, h2⟩
  | ct γ' => rintro ⟨e, s, h1, h2⟩; rw [h1]; exact ⟨e, s, rfl, h2⟩
  | rt w γ' => rintro ⟨d, e, s, h1, h2⟩; rw [h1]; exact ⟨d, e, s, rfl, h2⟩
  | exc C fs γ' => rintro ⟨d, e, s, h1, h2⟩; rw [h1]; exact ⟨d, e, s, rfl, h2⟩
  | stuck => intro _; trivial
theorem sim_expr (h : SimE fa ga) : SimS fl fr (sExpr fa) (qExpr ga) := fun n0 σ env γ hn r => (h σ env γ r).flw hn fun w d σ1 γ1 l hn r1 rv => ⟨env, σ1, rfl, .refl _, r1, keep.refl _ _⟩
theorem sim_ret (h : SimE fa ga) : SimS fl false (sRet fa) (qRet ga) := fun n0 σ env γ hn r => (h σ env γ r).flw hn fun w d σ1 γ1 l hn r1 rv => ⟨d, env, σ1, rfl, .refl _, r1, keep.refl _ _, rv⟩
theorem sim_retF (h : SimFr fa ga) : SimS fl true (sRet fa) (qRet ga) := fun n0 σ env γ hn r => by
  have := h σ env γ r
  unfold sRet qRet
  revert this
  cases ga γ with
  | ok w γ' => rintro ⟨n, c, c', σ', h1, h2, h3, h4, h5, h6, h7, h8, h9⟩; rw [h1]; exact ⟨_, env, σ', rfl, h2, h3, keep.refl _ _, n, c, c', rfl, h4, h5, h6, h7, Nat.le_trans hn h8⟩
  | exc C fs γ' => rintro ⟨gs, σ', h1, h2, h3, h4⟩; rw [h1]; exact ⟨gs, env, σ', rfl, h2, h3, keep.refl _ _, h4⟩
  | stuck => intro _; trivial
theorem sim_retN : SimS fl false sRetN qRetN := fun n0 σ env γ hn r => ⟨.non, env, σ, rfl, .refl _, r, keep.refl _ _, rfl⟩
theorem sim_brk : SimS fl fr sBrk qBrk := fun n0 σ env γ _ r => ⟨env, σ, rfl, .refl σ, r, keep.refl _ _⟩
theorem sim_cnt : SimS fl fr sCnt qCnt := fun n0 σ env γ _ r => ⟨env, σ, rfl, .refl σ, r, keep.refl _ _⟩
theorem sim_stuck : SimS fl fr sStuck qStuck := fun n0 σ env γ _ r => trivial
theorem sim_sif (h : SimT c tc) (ha : SimS fl fr a sa) (hb : SimS fl fr b sb) : SimS fl fr (sIf c a b) (qIf tc sa sb) := fun n0 σ env γ hn r => (h σ env γ r).flw hn fun w d σ1 γ1 l hn r1 rv => by
  subst rv; cases d
  · exact hb n0 σ1 env γ1 hn r1
  · exact ha n0 σ1 env γ1 hn r1
/-- a value put into names -/
def qAsg (a : GE) (g : GTg) : GS := fun γ => (a γ).fl fun w γ1 => match g w γ1 with
  | some γ2 => .nx γ2
  | none => .stuck
theorem sim_asg {t : Tg} {g : GTg} (h : SimE fa ga) (hg : SimG fl t g) : SimS fl fr (sAsg fa t) (qAsg ga g) := fun n0 σ env γ hn r => (h σ env γ r).flw hn fun w d σ1 γ1 l hn r1 rv => by
  cases e : g w γ1 with
  | none => trivial
  | some γ2 =>
    obtain ⟨env', σ2, h1, l2, h2, h3, _⟩ := hg.run σ1 env γ1 γ2 w d r1 rv e
    exact ⟨env', σ2, by rw [h1]; rfl, l2, h2, h3⟩
def cellO : D → Option Cell
  | .lsv ws => some (.lst ws)
  | .dct ks ws => some (.dk (ks.zip ws))
  | _ => none
theorem cellO_W (c : Cell) : cellO (cellW c) = some c := by
  cases c with
  | lst ws => rfl
  | dk kvs =>
    show some (Cell.dk _) = _
    congr 2
    induction kvs with
    | nil => rfl
    | cons k r ih => simp only [List.map_cons, List.zip_cons_cons, ih]
/-- a new list that the slot owns -/
def qAsgO (a : GE) (i : Nat) : GS := fun γ => (a γ).fl fun w γ1 => match cellO w with
  | some c => .nx (γ1.set i (.ow c))
  | none => .stuck
theorem sim_asgO {i : Nat} (h : SimFr fa ga) (hf : Free fl i := by decide) : SimS fl fr (sAsg fa (gNm i)) (qAsgO ga i) := fun n0 σ env γ hn r => by
  have := h σ env γ r
  unfold sAsg qAsgO
  revert this
  cases ga γ with
  | ok w γ' =>
    rintro ⟨n, c, c', σ', h1, h2, h3, rfl, h5, h6, h7, h8, h9⟩
    rw [h1]
    simp only [RG.fl, cellO_W]
    exact ⟨env.set i (some (.ref n)), σ', rfl, h2, h3.setO i h5 h6 h7 h9, keep.set hf _ _⟩
  | exc C fs γ' => rintro ⟨gs, σ', h1, h2, h3, h4⟩; rw [h1]; exact ⟨gs, env, σ', rfl, h2, h3, keep.refl _ _, h4⟩
  | stuck => intro _; trivial
/-- a, b = .., .. -/
def qPar2 (i j : Nat) (as : GA) : GS := fun γ => (as γ).fl fun ws γ1 => match ws with
  | [a, b] => .nx ((γ1.set i (.vl a)).set j (.vl b))
  | _ => .stuck
def qPar3 (i j l : Nat) (as : GA) : GS := fun γ => (as γ).fl fun ws γ1 => match ws with
  | [a, b, c] => .nx (((γ1.set i (.vl a)).set j (.vl b)).set l (.vl c))
  | _ => .stuck
theorem sim_par2 {fs : As} {gs : GA} {i j : Nat} (h : SimA fs gs) (hi : Free fl i := by decide) (hj : Free fl j := by decide) : SimS fl fr (sPar2 i j fs) (qPar2 i j gs) := fun n0 σ env γ hn r => (h σ env γ r).flw hn fun ws ds σ1 γ1 l hn r1 rv => by
  rcases ws with _ | ⟨a, _ | ⟨b, _ | ⟨c, ws⟩⟩⟩
  · trivial
  · trivial
  · obtain ⟨d, _, rfl, h1, e, _, rfl, h2, h3⟩ := rv
    have z : _ = [] := h3
    subst z
    exact ⟨_, σ1, rfl, .refl _, (r1.set i h1).set j h2, (keep.set hi _ _).trans (keep.set hj _ _)⟩
  · trivial
theorem sim_par3 {fs : As} {gs : GA} {i j k : Nat} (h : SimA fs gs) (hi : Free fl i := by decide) (hj : Free fl j := by decide) (hk : Free fl k := by decide) : SimS fl fr (sPar3 i j k fs) (qPar3 i j k gs) := fun n0 σ env γ hn r => (h σ env γ r).flw hn fun ws ds σ1 γ1 l hn r1 rv => by
  rcases ws with _ | ⟨a, _ | ⟨b, _ | ⟨c, _ | ⟨c2, ws⟩⟩⟩⟩
  · trivial
  · trivial
  · trivial
  · obtain ⟨d, _, rfl, h1, e, _, rfl, h2, f, _, rfl, h3, h4⟩ := rv
    have z : _ = [] := h4
    subst z
    exact ⟨_, σ1, rfl, .refl _, ((r1.set i h1).set j h2).set k h3, ((keep.set hi _ _).trans (keep.set hj _ _)).trans (keep.set hk _ _)⟩
  · trivial
/-- xs[k] = v, xs a slot's own list -/
def qSet (i : Nat) (a b : GE) : GS := fun γ => (a γ).fl fun w γ1 => (b γ1).fl0 fun k γ2 => match γ2[i]?, k with
  | some (.ow (.lst ws)), .int k => match ixN ws.length k with
    | some j => .nx (γ2.set i (.ow (.lst (ws.set j w))))
    | none => .stuck
  | _, _ => .stuck
theorem var_of {σ : Wd} {env : EnvD} {γ : Gn} {i : Nat} {c : Cell} (r : Rel σ env γ) (h : γ[i]? = some (.ow c)) : ∃ n c', env[i]? = some (some (.ref n)) ∧ σ.A n ∧ σ.T[n]? = some c' ∧ Rc σ c c' := r.ow i c h
/-- xs.append(e), xs a slot's own list -/
def gApp (i : Nat) (a : GE) : GE := fun γ => match γ[i]? with
  | some (.ow (.lst _)) => (a γ).bind fun w γ1 => match γ1[i]? with
    | some (.ow (.lst ws)) => if ws.length < LINE then .ok .non (γ1.set i (.ow (.lst (ws ++ [w])))) else .stuck
    | _ => .stuck
  | _ => .stuck
theorem sim_app {i : Nat} (h : SimE fa ga) : SimE (eM "list" vApp (eVar i) (aCons fa aNil)) (gApp i ga) := by
  intro σ env γ r
  unfold gApp
  split
  · rename_i ws0 h0
    obtain ⟨n, c', e1, e2, e3, e4⟩ := r.ow i _ h0
    obtain ⟨ds0, rfl, _⟩ := e4
    have e : eM "list" vApp (eVar i) (aCons fa aNil) env σ.T = (fa env σ.T).bind fun x S => vApp (.ref n) [x] S := by
      unfold eM eVar aCons aNil
      rw [e1]
      simp only [R.bind, tyN, e3, if_true]
      cases fa env σ.T <;> rfl
    rw [e]
    refine (h σ env γ r).bind fun w d σ1 γ1 l r1 rv => ?_
    split
    · rename_i ws h1
      obtain ⟨m, c2, q1, q2, q3, q4⟩ := r1.ow i _ h1
      rw [e1] at q1
      cases q1
      obtain ⟨ds, rfl, h2⟩ := q4
      simp only [vApp, q3, ← h2.length]
      split
      · obtain ⟨l3, r3⟩ := r1.wr (c := .lst (ws ++ [w])) (c' := .lst (ds ++ [d])) h1 e1 ⟨_, rfl, h2.append (Rws.one rv)⟩
        exact ⟨.non, _, rfl, l3, r3, rfl⟩
      · trivial
    · trivial
  · trivial
theorem sim_set {i : Nat} (h : SimE fa ga) (hb : SimE fb gb) : SimS fl fr (sAsg fa (gSb (eVar i) fb)) (qSet i ga gb) := by
  intro n0 σ env γ hn r
  unfold sAsg qSet
  refine (h σ env γ r).flw hn fun w d σ1 γ1 l1 hn1 r1 rv => ?_
  have hb1 := hb σ1 env γ1 r1
  revert hb1
  unfold gSb eVar
  cases gb γ1 with
  | stuck => intro _; trivial
  | exc C fs γ2 => intro _; trivial
  | ok k γ2 =>
    rintro ⟨kd, σ2, q1, l2, r2, rk⟩
    simp only [RG.fl0]
    rcases h1 : γ2[i]? with _ | ⟨_ | u | c⟩
    · trivial
    · trivial
    · trivial
    · cases c with
      | dk kvs => trivial
      | lst ws =>
        cases k <;> try trivial
        rename_i k
        simp only []
        obtain ⟨n, c2, e1, e2, e3, e4⟩ := r2.ow i _ h1
        obtain ⟨ds, rfl, h2⟩ := e4
        have ek : kd = .int _ := rk
        subst ek
        cases hj : ixN ws.length k with
        | none => trivial
        | some j' =>
          obtain ⟨l3, r3⟩ := r2.wr (c := .lst (ws.set j' w)) (c' := .lst (ds.set j' d)) h1 e1 ⟨_, rfl, h2.set j' (Rw.sub (l2.sub r1.ok) _ _ rv)⟩
          refine ⟨env, _, ?_, l2.trans l3, r3, keep.refl _ _⟩
          rw [e1]
          simp only [R.bind, q1, vSet, e3, ← h2.length, hj]
          rfl
/-- xs[k] as a target -/
def tSb (i : Nat) (k : Int) : GTg := fun w γ => match γ[i]? with
  | some (.ow (.lst ws)) => match ixN ws.length k with
    | some j => some (γ.set i (.ow (.lst (ws.set j w))))
    | none => none
  | _ => none
theorem sg_sb {fl : Nat → Prop} {i : Nat} {k : Int} : SimG fl (gSb (eVar i) (eC (.int k))) (tSb i k) := ⟨fun σ env γ γ' w d r rv e => by
  unfold tSb at e
  split at e
  · rename_i ws h1
    obtain ⟨n, c2, e1, e2, e3, e4⟩ := r.ow i _ h1
    obtain ⟨ds, rfl, h2⟩ := e4
    split at e
    · rename_i j hj
      cases e
      obtain ⟨l3, r3⟩ := r.wr (c := .lst (ws.set j w)) (c' := .lst (ds.set j d)) h1 e1 ⟨_, rfl, h2.set j rv⟩
      refine ⟨env, _, ?_, l3, r3, keep.refl _ _, rfl⟩
      unfold gSb eVar eC
      simp only [e1, R.bind, vSet, e3, ← h2.length, hj]
      rfl
    · cases e
  · cases e⟩
/-! ### dead slots -/
def wipeG (γ : Gn) : List Nat → Gn
  | [] => γ
  | i :: is => (wipeG γ is).set i .no
theorem Rel.wipe1 {γ : Gn} (r : Rel σ env γ) (i : Nat) : Rel σ env (γ.set i .no) := by
  refine ⟨r.ok, by simp [r.len], fun j u q => ?_, fun j c q => ?_, fun j k c c' m q1 q2 q3 q4 => ?_, r.bE⟩
  · rcases getSet q with ⟨_, z⟩ | ⟨ne, q⟩
    · cases z
    · exact r.vl j u q
  · rcases getSet q with ⟨_, z⟩ | ⟨ne, q⟩
    · cases z
    · exact r.ow j c q
  · rcases getSet q1 with ⟨_, z⟩ | ⟨n1, q1⟩
    · cases z
    · rcases getSet q2 with ⟨_, z⟩ | ⟨n2, q2⟩
      · cases z
      · exact r.inj j k c c' m q1 q2 q3 q4
theorem Rel.wipe {γ : Gn} (r : Rel σ env γ) : ∀ is : List Nat, Rel σ env (wipeG γ is)
  | [] => r
  | i :: is => (Rel.wipe r is).wipe1 i
def qWp (is : List Nat) (a : GS) : GS := fun γ => match a γ with
  | .nx γ' => .nx (wipeG γ' is)
  | .ct γ' => .ct (wipeG γ' is)
  | r => r
theorem sim_wp {is : List Nat} (h : SimS fl fr a sa) : SimS fl fr a (qWp is sa) := fun n0 σ env γ hn r => by
  have := h n0 σ env γ hn r
  unfold qWp
  revert this
  cases sa γ with
  | nx γ' => rintro ⟨e, s, h1, h2, h3, h4⟩; exact ⟨e, s, h1, h2, h3.wipe is, h4⟩
  | bk γ' => exact id
  | ct γ' => rintro ⟨e, s, h1, h2, h3, h4⟩; exact ⟨e, s, h1, h2, h3.wipe is, h4⟩
  | rt w γ' => exact id
  | exc C fs γ' => exact id
  | stuck => exact id
def qPre (is : List Nat) (a : GS) : GS := fun γ => a (wipeG γ is)
theorem sim_pre {is : List Nat} (h : SimS fl fr a sa) : SimS fl fr a (qPre is sa) := fun n0 σ env γ hn r => h n0 σ env _ hn (r.wipe is)
/-! ### while -/
def qWhN (c : GT) (b : GS) : Nat → GS
  | 0 => fun _ => .stuck
  | n + 1 => fun γ => (c γ).fl fun k γ1 => if k = true then
      (match b γ1 with
        | .nx γ' => qWhN c b n γ'
        | .ct γ' => qWhN c b n γ'
        | .bk γ' => .nx γ'
        | r => r)
    else .nx γ1
def qWh (c : GT) (b : GS) : GS := qWhN c b WF
theorem sim_whN (h : SimT c tc) (hb : SimS fl fr b sb) : ∀ n : Nat, SimS fl fr (sWhN c b n) (qWhN tc sb n)
  | 0 => fun n0 σ env γ hn r => trivial
  | n + 1 => fun n0 σ env γ hn r => (h σ env γ r).flw hn fun w d σ1 γ1 l hn r1 rv => by
    subst rv; cases d
    · exact ⟨env, σ1, rfl, .refl _, r1, keep.refl _ _⟩
    · have := hb n0 σ1 env γ1 hn r1
      simp only [if_true]
      revert this
      cases sb γ1 with
      | nx γ' => rintro ⟨e, s, h1, h2, h3, h4⟩; rw [h1]; exact (sim_whN h hb n n0 s e γ' (Nat.le_trans hn h2.ln) h3).le h2 h4
      | ct γ' => rintro ⟨e, s, h1, h2, h3, h4⟩; rw [h1]; exact (sim_whN h hb n n0 s e γ' (Nat.le_trans hn h2.ln) h3).le h2 h4
      | bk γ' => rintro ⟨e, s, h1, h2, h3, h4⟩; rw [h1]; exact ⟨e, s, rfl, h2, h3, h4⟩
      | rt w γ' => rintro ⟨d, e, s, h1, h2⟩; rw [h1]; exact ⟨d, e, s, rfl, h2⟩
      | exc C fs γ' => rintro ⟨d, e, s, h1, h2⟩; rw [h1]; exact ⟨d, e, s, rfl, h2⟩
      | stuck => intro _; trivial
theorem sim_wh (h : SimT c tc) (hb : SimS fl fr b sb) : SimS fl fr (sWh c b) (qWh tc sb) := sim_whN h hb WF
/-! ### for -/
def Rsrc (σ : Wd) (ws : List D) (s : Src) : Prop := s.len = ws.length ∧ ∀ (σ' : Wd), Sub σ σ' → ∀ i : Nat, (ws[i]? = none → s.get i σ'.T = some none) ∧ ∀ w, ws[i]? = some w → ∃ d, s.get i σ'.T = some (some d) ∧ Rw σ' w d
theorem Rsrc.sub {σ σ1 : Wd} {ws : List D} {s : Src} (b : Sub σ σ1) (h : Rsrc σ ws s) : Rsrc σ1 ws s := ⟨h.1, fun σ' b' i => h.2 σ' ⟨fun n p => b'.pp n (b.pp n p), fun n p => (b'.kp n (b.pp n p)).trans (b.kp n p)⟩ i⟩
abbrev GI := Gn → RG (List D)
abbrev SimI (f : EnvD → Sto → R Src) (g : GI) : Prop := Sim Rsrc f g
def qForN (g : GTg) (b : GS) : List D → GS
  | [] => fun γ => .nx γ
  | w :: ws => fun γ => match g w γ with
    | some γ1 => (match b γ1 with
      | .nx γ' => qForN g b ws γ'
      | .ct γ' => qForN g b ws γ'
      | .bk γ' => .nx γ'
      | r => r)
    | none => .stuck
def qFor (vs : List Nat) (f : GI) (g : GTg) (b : GS) : GS := fun γ => (f γ).fl fun ws γ1 => qForN g b ws (wipeG γ1 vs)
theorem sim_forN {t : Tg} {g : GTg} (hg : SimG fl t g) (hb : SimS fl fr b sb) (s : Src) : ∀ (ws all : List D) (i : Nat), all.drop i = ws → ∀ n0 σ env γ, n0 ≤ σ.T.length → Rel σ env γ → Rsrc σ all s → SimSAt fl fr n0 σ env (sForN s t b ws.length i env σ.T) (qForN g sb ws γ)
  | [], all, i, e, n0, σ, env, γ, hn, r, rs => by
    have hi : all[i]? = none := by rw [List.getElem?_eq_none_iff]; rw [List.drop_eq_nil_iff] at e; exact e
    have := (rs.2 σ ⟨fun _ h => h, fun _ _ => rfl⟩ i).1 hi
    exact ⟨env, σ, by simp only [List.length_nil, sForN, this], .refl _, r, keep.refl _ _⟩
  | w :: ws, all, i, e, n0, σ, env, γ, hn, r, rs => by
    have hi : all[i]? = some w := by
      have : (all.drop i)[0]? = some w := by rw [e]; rfl
      rw [List.getElem?_drop] at this; simpa using this
    have hd : all.drop (i + 1) = ws := by rw [← List.drop_drop, e]; rfl
    obtain ⟨d, h1, h2⟩ := (rs.2 σ ⟨fun _ h => h, fun _ _ => rfl⟩ i).2 w hi
    simp only [List.length_cons, sForN, h1, qForN]
    cases eg : g w γ with
    | none => trivial
    | some γ1 =>
      obtain ⟨env1, σ1, q1, ql, q2, q3, _⟩ := hg.run σ env γ γ1 w d r h2 eg
      rw [q1]
      simp only [R.fl0]
      refine SimSAt.le ql q3 ?_
      have hn1 := Nat.le_trans hn ql.ln
      have rs1 := rs.sub (ql.sub r.ok)
      have := hb n0 σ1 env1 γ1 hn1 q2
      revert this
      cases sb γ1 with
      | nx γ' => rintro ⟨e, s', z1, z2, z3, z4⟩; rw [z1]; exact (sim_forN hg hb s ws all (i + 1) hd n0 s' e γ' (Nat.le_trans hn1 z2.ln) z3 (rs1.sub (z2.sub q2.ok))).le z2 z4
      | ct γ' => rintro ⟨e, s', z1, z2, z3, z4⟩; rw [z1]; exact (sim_forN hg hb s ws all (i + 1) hd n0 s' e γ' (Nat.le_trans hn1 z2.ln) z3 (rs1.sub (z2.sub q2.ok))).le z2 z4
      | bk γ' => rintro ⟨e, s, h1, h2, h3, h4⟩; rw [h1]; exact ⟨e, s, rfl, h2, h3, h4⟩
      | rt w γ' => rintro ⟨d, e, s, h1, h2⟩; rw [h1]; exact ⟨d, e, s, rfl, h2⟩
      | exc C fs γ' => rintro ⟨d, e, s, h1, h2⟩; rw [h1]; exact ⟨d, e, s, rfl, h2⟩
      | stuck => intro _; trivial
theorem sim_for {i : EnvD → Sto → R Src} {gi : GI} {t : Tg} {g : GTg} (hi : SimI i gi) (hg : SimG fl t g) (hb : SimS fl fr b sb) {vs : List Nat} : SimS fl fr (sFor i t b) (qFor vs gi g sb) := fun n0 σ env γ hn r => (hi σ env γ r).flw hn fun ws s σ1 γ1 l hn r1 rv => by
  rw [rv.1]; exact sim_forN hg hb s ws ws 0 rfl n0 σ1 env _ hn (r1.wipe vs) rv
end
/-! ### what is walked -/
theorem rsrc_seq {σ : Wd} {ws ds : List D} (h : Rws σ ws ds) : Rsrc σ ws (cSeq ds) := ⟨h.length.symm, fun σ' b i => ⟨fun e => by
  show some ds[i]? = _; rw [h.getN e], fun w e => by
  obtain ⟨d, h1, h2⟩ := h.get e
  exact ⟨d, by show some ds[i]? = _; rw [h1], Rw.sub b _ _ h2⟩⟩⟩
def srcW : D → Option (List D)
  | .tup ds => some ds
  | .frl ds => some ds
  | .lsv ds => some ds
  | .str x => some (x.map fun c => .str [c])
  | _ => none
theorem rws_strs {σ : Wd} : ∀ x : List Nat, Rws σ (x.map fun c => .str [c]) (x.map fun c => .str [c])
  | [] => rfl
  | c :: x => ⟨_, _, rfl, rfl, rws_strs x⟩
theorem src_ok {σ : Wd} {w d : D} {ws : List D} (r : Rw σ w d) (h : srcW w = some ws) : ∃ s, srcOf d σ.T = .ok s σ.T ∧ Rsrc σ ws s := by
  cases w <;> simp only [srcW] at h <;> try cases h
  · have e : d = .str _ := r
    subst e; exact ⟨_, rfl, rsrc_seq (rws_strs _)⟩
  · obtain ⟨ds, rfl, h2⟩ := r; exact ⟨_, rfl, rsrc_seq h2⟩
  · obtain ⟨ds, rfl, h2⟩ := r; exact ⟨_, rfl, rsrc_seq h2⟩
  · obtain ⟨n, ds, rfl, hp, q, h2⟩ := r
    refine ⟨cCell n ds.length, by simp only [srcOf, q], h2.length.symm, fun σ' b i => ?_⟩
    have q' := (b.kp n hp).trans q
    exact ⟨fun e => by show (match σ'.T[n]? with | some (.lst ds) => some ds[i]? | _ => none) = _; rw [q']; simp only [h2.getN e], fun w e => by
      obtain ⟨d, h1, h3⟩ := h2.get e
      exact ⟨d, by show (match σ'.T[n]? with | some (.lst ds) => some ds[i]? | _ => none) = _; rw [q']; simp only [h1], Rw.sub b _ _ h3⟩⟩
section
variable {f fa fb : E} {ga gb : GE} {fs : As} {gs : GA}
def giOf (a : GE) : GI := fun γ => (a γ).bind fun w γ1 => gOpt (srcW w) γ1
theorem sim_iof (h : SimE fa ga) : SimI (iOf fa) (giOf ga) := fun σ env γ r => (h σ env γ r).bind fun w d σ1 γ1 l r1 rv => .opt r1 fun ws e => src_ok rv e
def giN (f : List D → Option (List D)) (as : GA) : GI := fun γ => (as γ).bind fun xs γ1 => gOpt (f xs) γ1
def wRng1 : List D → Option (List D)
  | [.int j] => if B62 j = true then some (intsD 0 1 j.toNat) else none
  | _ => none
def wRng2 : List D → Option (List D)
  | [.int i, .int j] => if B62 i = true ∧ B62 j = true then some (intsD i 1 (j - i).toNat) else none
  | _ => none
def wRng3 : List D → Option (List D)
  | [.int i, .int j, .int c] => if c ≠ 0 ∧ c.natAbs < 1073741824 ∧ Builtin.Range.small i j c = true ∧ 0 ≤ Builtin.Range.rangeSize i j c then some (intsD i c (Builtin.Range.rangeSize i j c).toNat) else none
  | _ => none
def WI (f : List D → Sto → R Src) (g : List D → Option (List D)) : Prop := ∀ (σ : Wd) (ws ds l : List D), σ.Ok → Rws σ ws ds → g ws = some l → ∃ s, f ds σ.T = .ok s σ.T ∧ Rsrc σ l s
theorem sim_iN {v : List D → Sto → R Src} {w : List D → Option (List D)} (hw : WI v w) (h : SimA fs gs) : SimI (iArg v fs) (giN w gs) := fun σ env γ r => (h σ env γ r).bind fun ws ds σ1 γ1 l r1 rv => .opt r1 fun l e => hw σ1 ws ds l r1.ok rv e
theorem w_rng1 : WI rng1 wRng1 := by
  intro σ ws ds l o r h
  unfold wRng1 at h
  split at h
  · obtain ⟨_, _, rfl, h1, h2⟩ := r
    have e1 : _ = D.int _ := h1
    have e2 : _ = [] := h2
    subst e1 e2
    split at h
    · rename_i hk; cases h; exact ⟨_, by simp only [rng1, hk, if_true], rsrc_seq (rws_intsD _ _ _)⟩
    · cases h
  · cases h
theorem w_rng2 : WI rng2 wRng2 := by
  intro σ ws ds l o r h
  unfold wRng2 at h
  split at h
  · obtain ⟨_, _, rfl, h1, _, _, rfl, h2, h3⟩ := r
    have e1 : _ = D.int _ := h1
    have e2 : _ = D.int _ := h2
    have e3 : _ = [] := h3
    subst e1 e2 e3
    split at h
    · rename_i hk; cases h; exact ⟨_, by simp only [rng2, if_pos hk], rsrc_seq (rws_intsD _ _ _)⟩
    · cases h
  · cases h
theorem w_rng3 : WI rng3 wRng3 := by
  intro σ ws ds l o r h
  unfold wRng3 at h
  split at h
  · obtain ⟨_, _, rfl, h1, _, _, rfl, h2, _, _, rfl, h3, h4⟩ := r
    have e1 : _ = D.int _ := h1
    have e2 : _ = D.int _ := h2
    have e3 : _ = D.int _ := h3
    have e4 : _ = [] := h4
    subst e1 e2 e3 e4
    split at h
    · rename_i hk; cases h; exact ⟨_, by simp only [rng3, if_pos hk], rsrc_seq (rws_intsD _ _ _)⟩
    · cases h
  · cases h
def enumW (ws : List D) : List D := ws.zipIdx.map fun p => .tup [.int (p.2 : Nat), p.1]
def wEn : D → Option (List D)
  | .lsv ws => some (enumW ws)
  | _ => none
def giEn (a : GE) : GI := fun γ => (a γ).bind fun w γ1 => gOpt (wEn w) γ1
theorem sim_ien (h : SimE fa ga) : SimI (iArg enOf (aCons fa aNil)) (giEn ga) := by
  intro σ env γ r
  have e : iArg enOf (aCons fa aNil) env σ.T = (fa env σ.T).bind fun x S => enOf [x] S := by
    unfold iArg aCons aNil; cases fa env σ.T <;> rfl
  rw [e]
  refine (h σ env γ r).bind fun w d σ1 γ1 l r1 rv => .opt r1 fun ws hw => ?_
  cases w <;> simp only [wEn] at hw <;> try cases hw
  obtain ⟨n, ds, rfl, hp, q, h2⟩ := rv
  refine ⟨cEn n ds.length, by simp only [enOf, q], by simp [cEn, enumW, h2.length], fun σ' b i => ?_⟩
  have q' := (b.kp n hp).trans q
  have eg : (cEn n ds.length).get i σ'.T = some (ds[i]?.map fun d => .tup [.int (i : Nat), d]) := by
    show (match σ'.T[n]? with | some (.lst ds) => _ | _ => none) = _; rw [q']
  rw [eg]
  constructor
  · intro he
    have : ds[i]? = none := by
      rw [List.getElem?_eq_none_iff] at he ⊢
      rw [← h2.length]; simpa [enumW] using he
    rw [this]; rfl
  · intro w he
    unfold enumW at he
    rw [List.getElem?_map, List.getElem?_zipIdx] at he
    obtain ⟨p, h3, rfl⟩ := Option.map_eq_some_iff.mp he
    obtain ⟨u, h4, rfl⟩ := Option.map_eq_some_iff.mp h3
    obtain ⟨d, h5, h6⟩ := h2.get h4
    rw [h5]
    exact ⟨_, rfl, _, rfl, .int _, _, rfl, by simp; rfl, d, [], rfl, Rw.sub b _ _ h6, rfl⟩
end
end Fz

/-! Gz5: comprehensions; what is dropped; defs and their calls. -/
namespace Fz
open PySem PySem.Spec PyProof.Rows L2

/-! ### comprehensions -/
def gLcN (g : GTg) (t : GT) (e : GE) (vs : List Nat) : List D → List D → Gn → RG (List D)
  | [], acc, γ => .ok acc γ
  | w :: ws, acc, γ => match g w γ with
    | some γ1 => (t γ1).bind fun b γ2 => if b = true then (e γ2).bind fun y γ3 => if acc.length < LINE then gLcN g t e vs ws (acc ++ [y]) (wipeG γ3 vs) else .stuck
        else gLcN g t e vs ws acc (wipeG γ2 vs)
    | none => .stuck
/-- the slots as they were -/
def restG (γ γ0 : Gn) : List Nat → Gn
  | [] => γ
  | i :: is => match γ0[i]? with
    | some (.vl w) => (restG γ γ0 is).set i (.vl w)
    | _ => restG γ γ0 is
def gLc (f : GI) (g : GTg) (t : GT) (e : GE) (vs : List Nat) : GE := fun γ => (f γ).bind fun ws γ1 => match gLcN g t e vs ws [] (wipeG γ1 vs) with
  | .ok l γ2 => .ok (.lsv l) (restG (wipeG γ2 vs) γ1 vs)
  | _ => .stuck
theorem wipeG_at {γ : Gn} : ∀ {vs : List Nat} {i : Nat} {s : Sl}, (wipeG γ vs)[i]? = some s → s = .no ∨ (i ∉ vs ∧ γ[i]? = some s)
  | [], i, s, h => .inr ⟨by simp, h⟩
  | v :: vs, i, s, h => by
    rcases getSet h with ⟨_, rfl⟩ | ⟨ne, h⟩
    · exact .inl rfl
    · rcases wipeG_at h with h | ⟨h1, h2⟩
      · exact .inl h
      · exact .inr ⟨by simp only [List.mem_cons, not_or]; exact ⟨fun e => ne e.symm, h1⟩, h2⟩
theorem wipeG_len {γ : Gn} : ∀ (vs : List Nat), (wipeG γ vs).length = γ.length
  | [] => rfl
  | v :: vs => by simp only [wipeG, List.length_set, wipeG_len vs]
theorem wipeD_len {env : EnvD} : ∀ (vs : List Nat), (wipeD env vs).length = env.length
  | [] => rfl
  | v :: vs => by simp only [wipeD, List.length_set, wipeD_len vs]
theorem wipeD_out {env : EnvD} : ∀ {vs : List Nat} {i : Nat}, i ∉ vs → (wipeD env vs)[i]? = env[i]?
  | [], i, _ => rfl
  | v :: vs, i, h => by
    simp only [List.mem_cons, not_or] at h
    simp only [wipeD]
    rw [List.getElem?_set_ne fun e => h.1 e.symm, wipeD_out h.2]
theorem wipeD_in {env : EnvD} : ∀ {vs : List Nat} {i : Nat} {d : D}, (wipeD env vs)[i]? = some (some d) → env[i]? = some (some d)
  | [], i, d, h => h
  | v :: vs, i, d, h => by
    rcases getSet h with ⟨_, h⟩ | ⟨ne, h⟩
    · cases h
    · exact wipeD_in h
/-- the slots vs forgotten, the frame another one that is alike elsewhere -/
theorem Rel.swap {σ : Wd} {env env' : EnvD} {γ : Gn} {vs : List Nat} (r : Rel σ env γ) (hl : env'.length = env.length) (he : ∀ i, i ∉ vs → env'[i]? = env[i]?) (hb : ∀ (i : Nat) (d : D), env'[i]? = some (some d) → noRef σ.T.length d = true) : Rel σ env' (wipeG γ vs) := by
  refine ⟨r.ok, by rw [wipeG_len, hl, r.len], fun j u q => ?_, fun j c q => ?_, fun j k c c' m q1 q2 q3 q4 => ?_, hb⟩
  · rcases wipeG_at q with q | ⟨h1, h2⟩
    · cases q
    · rw [he j h1]; exact r.vl j u h2
  · rcases wipeG_at q with q | ⟨h1, h2⟩
    · cases q
    · rw [he j h1]; exact r.ow j c h2
  · rcases wipeG_at q1 with q | ⟨h1, h2⟩
    · cases q
    · rcases wipeG_at q2 with q | ⟨h3, h4⟩
      · cases q
      · rw [he j h1] at q3; rw [he k h3] at q4; exact r.inj j k c c' m h2 h4 q3 q4
theorem Rel.rest {σ σ1 : Wd} {env : EnvD} {γ γ1 : Gn} (r1 : Rel σ1 env γ1) (l : Le σ1 σ) (r : Rel σ env γ) : ∀ vs : List Nat, Rel σ env (restG γ γ1 vs)
  | [] => r
  | i :: is => by
    have ih := Rel.rest r1 l r is
    unfold restG
    split
    · rename_i w h
      obtain ⟨d, h1, h2⟩ := r1.vl i w h
      have := ih.set i (Rw.sub (l.sub r1.ok) _ _ h2)
      have e : env.set i (some d) = env := by
        apply List.ext_getElem?
        intro j
        by_cases hj : i = j
        · subst hj
          rw [h1]
          have hi : i < env.length := by
            rcases Nat.lt_or_ge i env.length with z | z
            · exact z
            · rw [List.getElem?_eq_none z] at h1; cases h1
          rw [List.getElem?_set_self hi]
        · rw [List.getElem?_set_ne hj]
      rwa [e] at this
    · exact ih
section
variable {t : Tg} {g : GTg} {c : T} {tc : GT} {e : E} {ge : GE} {vs : List Nat}
def LcAt (σ : Wd) (env : EnvD) (r : R (List D)) (q : RG (List D)) : Prop := match q with
  | .ok l γ => ∃ ds σ', r = .ok ds σ'.T ∧ Le σ σ' ∧ Rel σ' env γ ∧ Rws σ' l ds
  | _ => True
theorem sim_lcN (hg : SimG (nv vs) t g) (hc : SimT c tc) (he : SimE e ge) (s : Src) : ∀ (ws all : List D) (i : Nat), all.drop i = ws → ∀ (acc ds : List D) σ env γ, Rel σ env γ → Rsrc σ all s → Rws σ acc ds →
    LcAt σ env (lcN s t c e env ws.length i ds σ.T) (gLcN g tc ge vs ws acc γ)
  | [], all, i, ei, acc, ds, σ, env, γ, r, rs, ra => by
    have hi : all[i]? = none := by rw [List.getElem?_eq_none_iff]; rw [List.drop_eq_nil_iff] at ei; exact ei
    have := (rs.2 σ ⟨fun _ h => h, fun _ _ => rfl⟩ i).1 hi
    exact ⟨ds, σ, by simp only [List.length_nil, lcN, this], .refl _, r, ra⟩
  | w :: ws, all, i, ei, acc, ds, σ, env, γ, r, rs, ra => by
    have hi : all[i]? = some w := by
      have : (all.drop i)[0]? = some w := by rw [ei]; rfl
      rw [List.getElem?_drop] at this; simpa using this
    have hd : all.drop (i + 1) = ws := by rw [← List.drop_drop, ei]; rfl
    obtain ⟨d, h1, h2⟩ := (rs.2 σ ⟨fun _ h => h, fun _ _ => rfl⟩ i).2 w hi
    simp only [List.length_cons, lcN, h1, gLcN]
    cases eg : g w γ with
    | none => trivial
    | some γ1 =>
      obtain ⟨env1, σ1, q1, ql, q2, q3, qn⟩ := hg.run σ env γ γ1 w d r h2 eg
      rw [q1]
      simp only [R.bind]
      have back : ∀ {σ' : Wd} {γ' : Gn}, Le σ σ' → Rel σ' env1 γ' → Rel σ' env (wipeG γ' vs) := fun l r' =>
        r'.swap qn.symm (fun i hi => (q3 i hi).symm) fun i d hd => noRef_mono l.ln (r.bE i d hd)
      have h3 := hc σ1 env1 γ1 q2
      revert h3
      cases ec : tc γ1 with
      | stuck => intro _; trivial
      | exc _ _ _ => intro _; trivial
      | ok b γ2 =>
        rintro ⟨b', σ2, z1, l2, r2, e2⟩
        have l2 := ql.trans l2
        subst e2
        rw [z1]
        simp only [R.bind, RG.bind]
        cases b' with
        | false =>
          simp only [Bool.false_eq_true, if_false]
          have := sim_lcN hg hc he s ws all (i + 1) hd acc ds σ2 env _ (back l2 r2) (rs.sub (l2.sub r.ok)) (Rws.sub (l2.sub r.ok) _ _ ra)
          revert this
          unfold LcAt
          cases gLcN g tc ge vs ws acc (wipeG γ2 vs) with
          | ok l γ => rintro ⟨a, b, c, d, e⟩; exact ⟨a, b, c, l2.trans d, e⟩
          | _ => exact id
        | true =>
          simp only [if_true]
          have h4 := he σ2 env1 γ2 r2
          revert h4
          cases ge γ2 with
          | stuck => intro _; trivial
          | exc _ _ _ => intro _; trivial
          | ok y γ3 =>
            rintro ⟨y', σ3, z3, l3, r3, ry⟩
            rw [z3]
            simp only [R.bind, RG.bind, ← ra.length]
            split
            · have l' := l2.trans l3
              have := sim_lcN hg hc he s ws all (i + 1) hd (acc ++ [y]) (ds ++ [y']) σ3 env _ (back l' r3) (rs.sub (l'.sub r.ok)) ((Rws.sub (l'.sub r.ok) _ _ ra).append (Rws.one ry))
              revert this
              unfold LcAt
              cases gLcN g tc ge vs ws (acc ++ [y]) (wipeG γ3 vs) with
              | ok l γ => rintro ⟨a, b, c, d, e⟩; exact ⟨a, b, c, l'.trans d, e⟩
              | _ => exact id
            · trivial
theorem fr_lc {fi : EnvD → Sto → R Src} {gi : GI} (hi : SimI fi gi) (hg : SimG (nv vs) t g) (hc : SimT c tc) (he : SimE e ge) : SimFr (eLc fi t c e vs) (gLc gi g tc ge vs) := fun σ env γ r => by
  refine (hi σ env γ r).bindFr fun ws s σ1 γ1 l1 r1 rs => ?_
  have r0 : Rel σ1 (wipeD env vs) (wipeG γ1 vs) := r1.swap (wipeD_len vs) (fun i hi => wipeD_out hi) fun i d h => r1.bE i d (wipeD_in h)
  have := sim_lcN hg hc he s ws ws 0 rfl [] [] σ1 (wipeD env vs) (wipeG γ1 vs) r0 rs rfl
  rw [rs.1]
  revert this
  cases gLcN g tc ge vs ws [] (wipeG γ1 vs) with
  | stuck => intro _; trivial
  | exc _ _ _ => intro _; trivial
  | ok l γ2 =>
    rintro ⟨ds, σ2, z1, l2, r2, rl⟩
    rw [z1]
    have r2' : Rel σ2 env (wipeG γ2 vs) := r2.swap (wipeD_len vs).symm (fun i hi => (wipeD_out hi).symm) fun i d hd => noRef_mono l2.ln (r1.bE i d hd)
    have r3 := Rel.rest r1 l2 r2' vs
    have := SimFrAt.anf (r := .ok (.ref σ2.T.length) (σ2.T ++ [.lst ds])) (o := some (.lsv l)) r3 (Anf.mk rl)
    exact SimFrAt.le l2 this
end
/-! ### what is dropped -/
def Wd.low (σ : Wd) (n : Nat) : Wd := ⟨fun k => σ.P k ∧ k < n, fun k => σ.A k ∧ k < n, σ.T.take n⟩
section
variable {σ : Wd} {n : Nat}
theorem low_get {k : Nat} (h : k < n) : (σ.low n).T[k]? = σ.T[k]? := by show (σ.T.take n)[k]? = _; rw [List.getElem?_take, if_pos h]
theorem cellNo_of (hc : (σ.T.take n).all (cellNo n) = true) {k : Nat} {c : Cell} (hk : k < n) (h : σ.T[k]? = some c) : cellNo n c = true := by
  rw [List.all_eq_true] at hc
  exact hc c (List.mem_of_getElem? (i := k) (by rw [List.getElem?_take, if_pos hk]; exact h))
theorem noRefK_map : ∀ {kvs : List (Key × D)}, noRefK n kvs = true → noRef.noRefs n (kvs.map (·.2)) = true
  | [], _ => rfl
  | (k, d) :: r, h => by
    simp only [noRefK, Bool.and_eq_true] at h
    simp only [List.map_cons, noRef.noRefs, Bool.and_eq_true]
    exact ⟨h.1, noRefK_map h.2⟩
mutual
theorem Rw.low (hc : (σ.T.take n).all (cellNo n) = true) : ∀ (w d : D), Rw σ w d → noRef n d = true → Rw (σ.low n) w d
  | .non, d, h, _ => h
  | .bl b, d, h, _ => h
  | .int i, d, h, _ => h
  | .str x, d, h, _ => h
  | .tup ws, d, h, q => by obtain ⟨ds, rfl, h2⟩ := h; exact ⟨ds, rfl, Rws.low hc ws ds h2 q⟩
  | .frl ws, d, h, q => by obtain ⟨ds, rfl, h2⟩ := h; exact ⟨ds, rfl, Rws.low hc ws ds h2 q⟩
  | .ref _, _, h, _ => h.elim
  | .fn x, d, h, _ => h
  | .lam _, d, h, _ => h
  | .lsv ws, d, h, q => by
    obtain ⟨k, ds, rfl, h2, h3, h4⟩ := h
    have hk : k < n := by simpa [noRef] using q
    have h5 := cellNo_of hc hk h3
    exact ⟨k, ds, rfl, ⟨h2, hk⟩, (low_get hk).trans h3, Rws.low hc ws ds h4 h5⟩
  | .dct ks ws, d, h, q => by
    obtain ⟨k, ds, rfl, h2, h3, h4, h6⟩ := h
    have hk : k < n := by simpa [noRef] using q
    have h5 := cellNo_of hc hk h3
    exact ⟨k, ds, rfl, ⟨h2, hk⟩, (low_get hk).trans h3, h4, Rws.low hc ws _ h6 (noRefK_map h5)⟩
theorem Rws.low (hc : (σ.T.take n).all (cellNo n) = true) : ∀ (ws ds : List D), Rws σ ws ds → noRef.noRefs n ds = true → Rws (σ.low n) ws ds
  | [], ds, h, _ => h
  | w :: ws, ds, h, q => by
    obtain ⟨d, dr, rfl, h1, h2⟩ := h
    simp only [noRef.noRefs, Bool.and_eq_true] at q
    exact ⟨d, dr, rfl, Rw.low hc w d h1 q.1, Rws.low hc ws dr h2 q.2⟩
end
theorem Rc.low (hc : (σ.T.take n).all (cellNo n) = true) {c c' : Cell} (h : Rc σ c c') (q : cellNo n c' = true) : Rc (σ.low n) c c' := by
  cases c with
  | lst ws => obtain ⟨ds, rfl, h2⟩ := h; exact ⟨ds, rfl, Rws.low hc _ _ h2 q⟩
  | dk ws => obtain ⟨ds, rfl, h1, h2⟩ := h; exact ⟨ds, rfl, h1, Rws.low hc _ _ h2 (noRefK_map q)⟩
theorem low_ok (o : σ.Ok) (hn : n ≤ σ.T.length) : (σ.low n).Ok := ⟨fun k p a => o.dis k p.1 a.1, fun k p => by show k < (σ.T.take n).length; rw [List.length_take, Nat.min_eq_left hn]; exact p.2, fun k p => by show k < (σ.T.take n).length; rw [List.length_take, Nat.min_eq_left hn]; exact p.2⟩
theorem low_len (hn : n ≤ σ.T.length) : (σ.low n).T.length = n := by show (σ.T.take n).length = n; rw [List.length_take, Nat.min_eq_left hn]
end
/-- the world before (σ) and behind (σ'): what is new is forgotten -/
theorem le_low {σ σ' : Wd} (o : σ.Ok) (l : Le σ σ') : Le σ (σ'.low σ.T.length) :=
  ⟨by rw [low_len l.ln]; exact Nat.le_refl _, fun n h => ⟨l.pp n h, o.bP n h⟩, fun n h => l.pn n h.1, fun n h => l.an n h.1, fun n h na => (low_get h).trans (l.kp n h na)⟩
theorem Rel.low {σ σ' : Wd} {env : EnvD} {γ γ' : Gn} (r : Rel σ env γ) (l : Le σ σ') (r' : Rel σ' env γ') (hc : (σ'.T.take σ.T.length).all (cellNo σ.T.length) = true) : Rel (σ'.low σ.T.length) env γ' := by
  refine ⟨low_ok r'.ok l.ln, r'.len, fun i w h => ?_, fun i c h => ?_, r'.inj, fun i d h => by rw [low_len l.ln]; exact r.bE i d h⟩
  · obtain ⟨d, h1, h2⟩ := r'.vl i w h
    exact ⟨d, h1, Rw.low hc _ _ h2 (r.bE i d h1)⟩
  · obtain ⟨n, c', h1, h2, h3, h4⟩ := r'.ow i c h
    have hn : n < σ.T.length := by simpa [noRef] using r.bE i _ h1
    exact ⟨n, c', h1, ⟨h2, hn⟩, (low_get hn).trans h3, h4.low hc (cellNo_of hc hn h3)⟩
theorem gc_sim {σ σ' : Wd} {env : EnvD} {γ γ' : Gn} {w d : D} (r : Rel σ env γ) (l : Le σ σ') (r' : Rel σ' env γ') (rw_ : Rw σ' w d) : SimAt Rw σ env (gcV σ.T.length d σ'.T) (.ok w γ') := by
  unfold gcV
  split
  · rename_i hc
    have rl := r.low l r' hc
    have ll := le_low r.ok l
    split
    · rename_i hd
      exact ⟨d, σ'.low σ.T.length, rfl, ll, rl, Rw.low hc _ _ rw_ hd⟩
    · have same : SimAt Rw σ env (.ok d σ'.T) (.ok w γ') := ⟨d, σ', rfl, l, r', rw_⟩
      split
      · rename_i k
        split
        · rename_i c hk
          split
          · rename_i hq
            have lp := le0_push (low_ok r'.ok l.ln) (σ := σ'.low σ.T.length) c
            refine ⟨.ref σ.T.length, (σ'.low σ.T.length).push c, rfl, ll.trans lp.toLe, rl.more lp, ?_⟩
            have hp : ((σ'.low σ.T.length).push c).P σ.T.length := .inr (low_len l.ln).symm
            have hg : ((σ'.low σ.T.length).push c).T[σ.T.length]? = some c := by
              have := push_at (σ'.low σ.T.length) c
              rwa [low_len l.ln] at this
            cases w with
            | lsv ws =>
              obtain ⟨m, ds, e, h2, h3, h4⟩ := rw_
              cases e
              rw [hk] at h3
              cases h3
              exact ⟨_, ds, rfl, hp, hg, Rws.sub (lp.toLe.sub (low_ok r'.ok l.ln)) _ _ (Rws.low hc _ _ h4 hq.2)⟩
            | dct ks ws =>
              obtain ⟨m, ds, e, h2, h3, h4, h5⟩ := rw_
              cases e
              rw [hk] at h3
              cases h3
              exact ⟨_, ds, rfl, hp, hg, h4, Rws.sub (lp.toLe.sub (low_ok r'.ok l.ln)) _ _ (Rws.low hc _ _ h5 (noRefK_map hq.2))⟩
            | non => have e : D.ref _ = .non := rw_; cases e
            | bl b => have e : D.ref _ = .bl b := rw_; cases e
            | int b => have e : D.ref _ = .int b := rw_; cases e
            | str b => have e : D.ref _ = .str b := rw_; cases e
            | fn b => have e : D.ref _ = .fn b := rw_; cases e
            | lam _ => have e : D.ref _ = .lam _ := rw_; cases e
            | tup b => obtain ⟨_, e, _⟩ := rw_; cases e
            | frl b => obtain ⟨_, e, _⟩ := rw_; cases e
            | ref b => exact rw_.elim
          · exact same
        · exact same
      · exact same
  · exact ⟨d, σ', rfl, l, r', rw_⟩
theorem gc_simF {σ σ' : Wd} {env : EnvD} {γ γ' : Gn} {n : Nat} {c c' : Cell} (r : Rel σ env γ) (l : Le σ σ') (r' : Rel σ' env γ') (hA : σ'.A n) (hn : σ'.T[n]? = some c') (rc : Rc σ' c c') (hl : σ.T.length ≤ n) : SimFrAt σ env (gcV σ.T.length (.ref n) σ'.T) (.ok (cellW c) γ') := by
  have hx : ∀ (i : Nat) (e : Cell), γ'[i]? = some (.ow e) → env[i]? ≠ some (some (.ref n)) := fun i e _ q => by
    have := r.bE i _ q
    simp only [noRef, decide_eq_true_eq] at this; omega
  have same : SimFrAt σ env (.ok (.ref n) σ'.T) (.ok (cellW c) γ') := ⟨n, c, c', σ', rfl, l, r', rfl, hA, hn, rc, hl, hx⟩
  unfold gcV
  split
  · rename_i hc
    have rl := r.low l r' hc
    have ll := le_low r.ok l
    rw [if_neg (by simp [noRef]; omega)]
    simp only [hn]
    split
    · rename_i hq
      have lp := le0_pushA (low_ok r'.ok l.ln) (σ := σ'.low σ.T.length) c'
      have hg : ((σ'.low σ.T.length).pushA c').T[σ.T.length]? = some c' := by
        have := pushA_at (σ'.low σ.T.length) c'
        rwa [low_len l.ln] at this
      exact ⟨σ.T.length, c, c', (σ'.low σ.T.length).pushA c', rfl, ll.trans lp.toLe, rl.more lp, rfl, .inr (low_len l.ln).symm, hg, (rc.low hc hq.2).sub (lp.toLe.sub (low_ok r'.ok l.ln)), Nat.le_refl _, fun i e _ q => by
        have := r.bE i _ q
        simp only [noRef, decide_eq_true_eq] at this; omega⟩
    · exact same
  · exact same
theorem sim_gc {f : E} {g : GE} (h : SimE f g) : SimE (eGc f) g := fun σ env γ r => by
  have := h σ env γ r
  unfold eGc
  revert this
  cases g γ with
  | ok w γ' => rintro ⟨d, σ', h1, h2, h3, h4⟩; rw [h1]; exact gc_sim r h2 h3 h4
  | exc C fs γ' => rintro ⟨d, σ', h1, h2⟩; rw [h1]; exact ⟨d, σ', rfl, h2⟩
  | stuck => intro _; trivial
end Fz

/-! Gz6: defs and their calls. -/
namespace Fz
open PySem PySem.Spec PyProof.Rows L2

abbrev GFn := List Sl → RG D
def SimFn (fr : Bool) (F : Fn) (G : GFn) : Prop := ∀ (σ : Wd) (ds : List D) (as : List Sl), Rel σ (ds.map some) as → if fr = true then SimFrAt σ (ds.map some) (F ds σ.T) (G as) else SimAt Rw σ (ds.map some) (F ds σ.T) (G as)
def outs : List Bool → Gn → Gn
  | [], _ => []
  | true :: fl, s :: γ => s :: outs fl γ
  | false :: fl, _ :: γ => .no :: outs fl γ
  | _ :: fl, [] => .no :: outs fl []
def defG (fl : List Bool) (fr : Bool) (np N : Nat) (body : GS) : GFn := fun as => if as.length = np then
    (match body (as ++ List.replicate (N - np) .no) with
      | .nx γ => if fr = true then .stuck else .ok .non (outs fl γ)
      | .rt w γ => .ok w (outs fl γ)
      | .exc C fs γ => .exc C fs (outs fl γ)
      | _ => .stuck)
  else .stuck
theorem outs_len : ∀ (fl : List Bool) (γ : Gn), (outs fl γ).length = fl.length
  | [], _ => rfl
  | true :: fl, [] => by simp only [outs, List.length_cons, outs_len fl]
  | false :: fl, [] => by simp only [outs, List.length_cons, outs_len fl]
  | true :: fl, s :: γ => by simp only [outs, List.length_cons, outs_len fl]
  | false :: fl, s :: γ => by simp only [outs, List.length_cons, outs_len fl]
theorem outs_at : ∀ {fl : List Bool} {γ : Gn} {i : Nat} {s : Sl}, (outs fl γ)[i]? = some s → s = .no ∨ (fl[i]? = some true ∧ γ[i]? = some s)
  | [], γ, i, s, h => by simp [outs] at h
  | true :: fl, [], 0, s, h => .inl (by simpa [outs] using h.symm)
  | false :: fl, [], 0, s, h => .inl (by simpa [outs] using h.symm)
  | true :: fl, [], i + 1, s, h => by
    rcases outs_at (fl := fl) (γ := []) (i := i) (s := s) (by simpa [outs] using h) with z | ⟨z1, z2⟩
    · exact .inl z
    · simp at z2
  | false :: fl, [], i + 1, s, h => by
    rcases outs_at (fl := fl) (γ := []) (i := i) (s := s) (by simpa [outs] using h) with z | ⟨z1, z2⟩
    · exact .inl z
    · simp at z2
  | true :: fl, u :: γ, 0, s, h => .inr ⟨rfl, by simpa [outs] using h⟩
  | false :: fl, u :: γ, 0, s, h => .inl (by simpa [outs] using h.symm)
  | true :: fl, u :: γ, i + 1, s, h => by
    rcases outs_at (fl := fl) (γ := γ) (i := i) (s := s) (by simpa [outs] using h) with z | ⟨z1, z2⟩
    · exact .inl z
    · exact .inr ⟨by simpa using z1, by simpa using z2⟩
  | false :: fl, u :: γ, i + 1, s, h => by
    rcases outs_at (fl := fl) (γ := γ) (i := i) (s := s) (by simpa [outs] using h) with z | ⟨z1, z2⟩
    · exact .inl z
    · exact .inr ⟨by simpa using z1, by simpa using z2⟩
theorem Rel.outs {σ σ' : Wd} {ds : List D} {as γ : Gn} {env' : EnvD} {fl : List Bool} {m : Nat} (r : Rel σ (ds.map some) as) (l : Le σ σ') (r' : Rel σ' env' γ) (hfl : fl.length = ds.length)
    (k : keep (pfl fl) (ds.map some ++ List.replicate m none) env') : Rel σ' (ds.map some) (Fz.outs fl γ) := by
  have e : ∀ {i : Nat}, fl[i]? = some true → env'[i]? = (ds.map some)[i]? := fun {i} h => by
    have hi : i < fl.length := by
      rcases Nat.lt_or_ge i fl.length with z | z
      · exact z
      · rw [List.getElem?_eq_none z] at h; cases h
    rw [k i h, List.getElem?_append_left (by simp; omega)]
  refine ⟨r'.ok, by rw [outs_len, hfl]; simp, fun i w h => ?_, fun i c h => ?_, fun i j c c' n h1 h2 h3 h4 => ?_, fun i d h => noRef_mono l.ln (r.bE i d h)⟩
  · rcases outs_at h with z | ⟨z1, z2⟩
    · cases z
    · rw [← e z1]; exact r'.vl i w z2
  · rcases outs_at h with z | ⟨z1, z2⟩
    · cases z
    · rw [← e z1]; exact r'.ow i c z2
  · rcases outs_at h1 with z | ⟨z1, z2⟩
    · cases z
    · rcases outs_at h2 with z | ⟨z3, z4⟩
      · cases z
      · rw [← e z1] at h3; rw [← e z3] at h4; exact r'.inj i j c c' n z2 z4 h3 h4
theorem Rel.start {σ : Wd} {ds : List D} {as : Gn} (r : Rel σ (ds.map some) as) (m : Nat) : Rel σ (ds.map some ++ List.replicate m none) (as ++ List.replicate m .no) := by
  have hl : ds.length = as.length := by simpa using r.len
  have g : ∀ {i : Nat} {s : Sl}, (as ++ List.replicate m .no)[i]? = some s → s = .no ∨ (i < as.length ∧ as[i]? = some s) := fun {i s} h => by
    rw [List.getElem?_append] at h
    split at h
    · rename_i hi; exact .inr ⟨hi, h⟩
    · exact .inl (List.eq_of_mem_replicate (List.mem_of_getElem? h))
  have e : ∀ {i : Nat}, i < as.length → (ds.map some ++ List.replicate m none)[i]? = (ds.map some)[i]? := fun {i} h => List.getElem?_append_left (by simp; omega)
  refine ⟨r.ok, by simp [hl], fun i w h => ?_, fun i c h => ?_, fun i j c c' n h1 h2 h3 h4 => ?_, fun i d h => ?_⟩
  · rcases g h with z | ⟨z1, z2⟩
    · cases z
    · rw [e z1]; exact r.vl i w z2
  · rcases g h with z | ⟨z1, z2⟩
    · cases z
    · rw [e z1]; exact r.ow i c z2
  · rcases g h1 with z | ⟨z1, z2⟩
    · cases z
    · rcases g h2 with z | ⟨z3, z4⟩
      · cases z
      · rw [e z1] at h3; rw [e z3] at h4; exact r.inj i j c c' n z2 z4 h3 h4
  · rw [List.getElem?_append] at h
    split at h
    · exact r.bE i d h
    · have := List.eq_of_mem_replicate (List.mem_of_getElem? h); cases this
theorem simF_def {fl : List Bool} {fr : Bool} {np N : Nat} {b : Sm} {sb : GS} (hfl : fl.length = np) (h : SimS (pfl fl) fr b sb) : SimFn fr (defF np N b) (defG fl fr np N sb) := by
  intro σ ds as r
  have hl : ds.length = as.length := by simpa using r.len
  unfold defF defG
  by_cases hn : as.length = np
  · rw [if_pos hn, if_pos (hl.trans hn)]
    have := h σ.T.length σ _ _ (Nat.le_refl _) (r.start (N - np))
    revert this
    cases hq : sb (as ++ List.replicate (N - np) .no) with
    | nx γ =>
      rintro ⟨env', σ', h1, h2, h3, h4⟩
      have ro := r.outs h2 h3 (by omega) h4
      rw [h1]
      cases fr
      · exact gc_sim r h2 ro (show Rw σ' .non .non from rfl)
      · trivial
    | bk γ => intro _; cases fr <;> trivial
    | ct γ => intro _; cases fr <;> trivial
    | stuck => intro _; cases fr <;> trivial
    | rt w γ =>
      rintro ⟨d, env', σ', h1, h2, h3, h4, h5⟩
      have ro := r.outs h2 h3 (by omega) h4
      rw [h1]
      cases fr
      · exact gc_sim r h2 ro h5
      · obtain ⟨n, c, c', rfl, rfl, q1, q2, q3, q4⟩ := h5
        exact gc_simF r h2 ro q1 q2 q3 q4
    | exc C fs γ =>
      rintro ⟨gs, env', σ', h1, h2, h3, h4, h5⟩
      have ro := r.outs h2 h3 (by omega) h4
      rw [h1]
      cases fr <;> exact ⟨gs, σ', rfl, h2, ro, h5⟩
  · rw [if_neg hn]; cases fr <;> trivial

/-! ### calls -/
theorem Rws.perm {σ : Wd} {ws ds : List D} (h : Rws σ ws ds) : ∀ pm : List Nat, Rws σ (permL pm ws) (permL pm ds)
  | [] => rfl
  | i :: pm => by
    have e : ∀ {α : Type} (l : List α), permL (i :: pm) l = (match l[i]? with | some a => a :: permL pm l | none => permL pm l) := fun l => by
      unfold permL; rw [List.filterMap_cons]; cases l[i]? <;> rfl
    rw [e, e]
    cases hw : ws[i]? with
    | none => rw [h.getN hw]; exact Rws.perm h pm
    | some w => obtain ⟨d, h1, h2⟩ := h.get hw; rw [h1]; exact ⟨d, _, rfl, h2, Rws.perm h pm⟩
theorem permL_len {α β : Type} {xs : List α} {ys : List β} (h : xs.length = ys.length) : ∀ pm : List Nat, (permL pm xs).length = (permL pm ys).length
  | [] => rfl
  | i :: pm => by
    unfold permL
    rw [List.filterMap_cons, List.filterMap_cons]
    have ih := permL_len h pm
    unfold permL at ih
    by_cases hi : i < xs.length
    · have hj : i < ys.length := by omega
      simp only [List.getElem?_eq_getElem hi, List.getElem?_eq_getElem hj, List.length_cons, ih]
    · rw [List.getElem?_eq_none (by omega), List.getElem?_eq_none (by omega)]; exact ih
/-- the callee's world -/
def Wd.sub (σ : Wd) (A : Nat → Prop) : Wd := ⟨σ.P, A, σ.T⟩
theorem Rel.args {σ : Wd} {ws ds : List D} (o : σ.Ok) (h : Rws σ ws ds) : Rel (σ.sub fun _ => False) (ds.map some) (ws.map .vl) := by
  have sb : Sub σ (σ.sub fun _ => False) := ⟨fun _ h => h, fun _ _ => rfl⟩
  refine ⟨⟨fun _ _ h => h, o.bP, fun _ h => h.elim⟩, by simp [h.length], fun i w e => ?_, fun i c e => ?_, fun i j c c' n e => ?_, fun i d e => ?_⟩
  · rw [List.getElem?_map] at e
    obtain ⟨u, h1, h2⟩ := Option.map_eq_some_iff.mp e
    cases h2
    obtain ⟨d, h3, h4⟩ := h.get h1
    exact ⟨d, by rw [List.getElem?_map, h3]; rfl, Rw.sub sb _ _ h4⟩
  · rw [List.getElem?_map] at e
    obtain ⟨u, h1, h2⟩ := Option.map_eq_some_iff.mp e
    cases h2
  · rw [List.getElem?_map] at e
    obtain ⟨u, h1, h2⟩ := Option.map_eq_some_iff.mp e
    cases h2
  · rw [List.getElem?_map] at e
    obtain ⟨u, h1, h2⟩ := Option.map_eq_some_iff.mp e
    cases h2
    obtain ⟨w, _, hw⟩ := h.mem (List.mem_of_getElem? h1)
    exact hw.noRef o
theorem sub_A (σc : Wd) (A : Nat → Prop) : Sub σc ⟨σc.P, A, σc.T⟩ := ⟨fun _ h => h, fun _ _ => rfl⟩
/-- behind a call that owns no cell of the caller's -/
theorem le0_back {σ σc : Wd} (o : σ.Ok) (oc : σc.Ok) (l : Le (σ.sub fun _ => False) σc) (N : Nat → Prop) (hN : ∀ n, N n → σc.A n) : Le0 σ ⟨σc.P, fun n => σ.A n ∨ N n, σc.T⟩ :=
  ⟨⟨l.ln, l.pp, fun n h => (l.pn n h).elim .inl fun h => h.elim (fun z => z.elim) fun h => .inr (.inr h), fun n h => h.elim .inl fun h => (l.an n (hN n h)).elim (fun z => z.elim) .inr, fun n h _ => l.kp n h id⟩,
    ⟨fun n h a => a.elim (fun a => (l.pn n h).elim (fun p => o.dis n p a) fun z => z.elim (fun z => z.elim) fun z => by have := o.bA n a; have e : (σ.sub fun _ => False).T.length = σ.T.length := rfl; omega) fun a => oc.dis n h (hN n a),
      oc.bP, fun n h => h.elim (fun a => Nat.lt_of_lt_of_le (o.bA n a) l.ln) fun a => oc.bA n (hN n a)⟩, fun n h => .inl h, fun n h => l.kp n h id⟩
def gCall (n m : Nat) (pm : List Nat) (dds : List D) (np : Nat) (G : GFn) (as : GA) : GE := fun γ => (as γ).bind fun xs γ1 =>
  if xs.length = n + m ∧ (permL pm (xs ++ dds)).length = np then
    (match G ((permL pm (xs ++ dds)).map .vl) with
      | .ok w _ => .ok w γ1
      | .exc C fs _ => .exc C fs γ1
      | .stuck => .stuck)
  else .stuck
section
variable {n m np : Nat} {pm : List Nat} {dds : List D} {F : Fn} {G : GFn} {fs : As} {gs : GA}
theorem call_at {σ : Wd} {env : EnvD} {γ : Gn} {xs ds : List D} (hF : SimFn false F G) (hd : plainDs dds = true) (r : Rel σ env γ) (rx : Rws σ xs ds) : SimAt Rw σ env (cF n m pm dds np F ds σ.T)
    (if xs.length = n + m ∧ (permL pm (xs ++ dds)).length = np then (match G ((permL pm (xs ++ dds)).map .vl) with
      | .ok w _ => .ok w γ
      | .exc C fs _ => .exc C fs γ
      | .stuck => .stuck) else .stuck) := by
  have ra : Rws σ (permL pm (xs ++ dds)) (permL pm (ds ++ dds)) := (rx.append (rws_plain dds hd)).perm pm
  by_cases hc : xs.length = n + m ∧ (permL pm (xs ++ dds)).length = np
  · have hc' : ds.length = n + m ∧ (permL pm (ds ++ dds)).length = np := ⟨by rw [← rx.length]; exact hc.1, by rw [← ra.length]; exact hc.2⟩
    unfold cF
    rw [if_pos hc, if_pos hc']
    have := hF (σ.sub fun _ => False) _ _ (Rel.args r.ok ra)
    simp only [Bool.false_eq_true, if_false] at this
    revert this
    cases G ((permL pm (xs ++ dds)).map .vl) with
    | ok w o =>
      rintro ⟨d, σc, h1, h2, h3, h4⟩
      have l0 := le0_back r.ok h3.ok h2 (fun _ => False) fun _ z => z.elim
      exact ⟨d, ⟨σc.P, fun n => σ.A n ∨ False, σc.T⟩, h1, l0.toLe, r.more l0, Rw.sub (sub_A σc _) _ _ h4⟩
    | exc C fs o =>
      rintro ⟨d, σc, h1, h2, h3, h4, h5⟩
      have l0 := le0_back r.ok h3.ok h2 (fun _ => False) fun _ z => z.elim
      exact ⟨d, ⟨σc.P, fun n => σ.A n ∨ False, σc.T⟩, h1, l0.toLe, r.more l0, h4, Rws.sub (sub_A σc _) _ _ h5⟩
    | stuck => intro _; trivial
  · rw [if_neg hc]; trivial
theorem sim_call (hF : SimFn false F G) (h : SimA fs gs) (hd : plainDs dds = true := by rfl) : SimE (eN (cF n m pm dds np F) fs) (gCall n m pm dds np G gs) := fun σ env γ r =>
  (h σ env γ r).bind fun xs ds σ1 γ1 _ r1 rx => call_at hF hd r1 rx
theorem fr_call (hF : SimFn true F G) (h : SimA fs gs) (hd : plainDs dds = true := by rfl) : SimFr (eN (cF n m pm dds np F) fs) (gCall n m pm dds np G gs) := fun σ env γ r =>
  (h σ env γ r).bindFr fun xs ds σ1 γ1 _ r1 rx => by
  have ra : Rws σ1 (permL pm (xs ++ dds)) (permL pm (ds ++ dds)) := (rx.append (rws_plain dds hd)).perm pm
  by_cases hc : xs.length = n + m ∧ (permL pm (xs ++ dds)).length = np
  · have hc' : ds.length = n + m ∧ (permL pm (ds ++ dds)).length = np := ⟨by rw [← rx.length]; exact hc.1, by rw [← ra.length]; exact hc.2⟩
    unfold cF
    rw [if_pos hc, if_pos hc']
    have := hF (σ1.sub fun _ => False) _ _ (Rel.args r1.ok ra)
    simp only [if_true] at this
    revert this
    cases G ((permL pm (xs ++ dds)).map .vl) with
    | ok w o =>
      rintro ⟨k, c, c', σc, h1, h2, h3, rfl, h5, h6, h7, h8, h9⟩
      have l0 := le0_back r1.ok h3.ok h2 (fun j => j = k) fun _ z => z ▸ h5
      exact ⟨k, c, c', ⟨σc.P, fun n => σ1.A n ∨ n = k, σc.T⟩, h1, l0.toLe, r1.more l0, rfl, .inr rfl, h6, Rc.sub (sub_A σc _) h7, h8, fun i e q z => by
        have := own_lt r1 q z
        have e2 : (σ1.sub fun _ => False).T.length = σ1.T.length := rfl
        omega⟩
    | exc C fs o =>
      rintro ⟨d, σc, h1, h2, h3, h4, h5⟩
      have l0 := le0_back r1.ok h3.ok h2 (fun _ => False) fun _ z => z.elim
      exact ⟨d, ⟨σc.P, fun n => σ1.A n ∨ False, σc.T⟩, h1, l0.toLe, r1.more l0, h4, Rws.sub (sub_A σc _) _ _ h5⟩
    | stuck => intro _; trivial
  · rw [if_neg hc]; trivial
/-- with keywords behind -/
def gaApp (n m : Nat) (a b : GA) : GA := fun γ => (a γ).bind fun xs γ1 => (b γ1).bind fun ys γ2 => if xs.length = n ∧ ys.length = m then .ok (xs ++ ys) γ2 else .stuck
theorem sim_aapp {fa fb : As} {ga gb : GA} (ha : SimA fa ga) (hb : SimA fb gb) : SimA (aApp n m fa fb) (gaApp n m ga gb) := fun σ env γ r => (ha σ env γ r).bind fun xs ds σ1 γ1 _ r1 rx => (hb σ1 env γ1 r1).bind fun ys es σ2 γ2 l r2 ry => by
  by_cases hc : xs.length = n ∧ ys.length = m
  · rw [if_pos hc, if_pos ⟨by rw [← rx.length]; exact hc.1, by rw [← ry.length]; exact hc.2⟩]
    exact .here r2 ((Rws.sub (l.sub r1.ok) _ _ rx).append ry)
  · rw [if_neg hc]; trivial

/-! ### calls that may write the list of a slot, the first argument -/
def putSl (γ : Gn) (i : Nat) (o : Option Sl) : Gn := match o with
  | some s => γ.set i s
  | none => γ.set i .no
def gCallIo (i n : Nat) (pm : List Nat) (dds : List D) (np : Nat) (G : GFn) (as : GA) : GE := fun γ => (gPk i γ).bind fun _ _ => (as γ).bind fun xs γ1 => match γ1[i]? with
  | some (.ow c) => if xs.length = n ∧ (permL pm (xs ++ dds)).length + 1 = np then
      (match G (.ow c :: (permL pm (xs ++ dds)).map .vl) with
        | .ok w o => .ok w (putSl γ1 i o[0]?)
        | .exc C fs o => .exc C fs (putSl γ1 i o[0]?)
        | .stuck => .stuck)
    else .stuck
  | _ => .stuck
theorem permL_S {α : Type} (a : α) (l : List α) (pm : List Nat) : permL (0 :: pm.map (· + 1)) (a :: l) = a :: permL pm l := by
  unfold permL
  rw [List.filterMap_cons]
  simp only [List.getElem?_cons_zero, List.filterMap_map]
  rfl
theorem Rel.argsIo {σ : Wd} {env : EnvD} {γ : Gn} {i k : Nat} {c : Cell} {ws ds : List D} (r : Rel σ env γ) (hi : γ[i]? = some (.ow c)) (he : env[i]? = some (some (.ref k))) (h : Rws σ ws ds) :
    Rel (σ.sub fun n => n = k) ((D.ref k :: ds).map some) (.ow c :: ws.map .vl) := by
  have sb : Sub σ (σ.sub fun n => n = k) := ⟨fun _ h => h, fun _ _ => rfl⟩
  obtain ⟨k', c', e1, e2, e3, e4⟩ := r.ow i c hi
  rw [he] at e1
  cases e1
  have ra := Rel.args r.ok h
  refine ⟨⟨fun n p a => r.ok.dis n p (by rw [show n = k from a]; exact e2), r.ok.bP, fun n a => by rw [show n = k from a]; exact r.ok.bA k e2⟩, by simp [h.length], fun j w e => ?_, fun j c2 e => ?_, fun j l c1 c2 n q1 q2 q3 q4 => ?_, fun j d e => ?_⟩
  · cases j with
    | zero => cases e
    | succ j => obtain ⟨d, h1, h2⟩ := ra.vl j w e; exact ⟨d, h1, Rw.sub (show Sub (σ.sub fun _ => False) (σ.sub fun n => n = k) from ⟨fun _ h => h, fun _ _ => rfl⟩) _ _ h2⟩
  · cases j with
    | zero => cases e; exact ⟨k, c', rfl, rfl, e3, Rc.sub sb e4⟩
    | succ j => obtain ⟨_, _, _, z, _⟩ := ra.ow j c2 e; exact z.elim
  · cases j with
    | zero => cases l with
      | zero => rfl
      | succ l => obtain ⟨_, _, _, z, _⟩ := ra.ow l c2 q2; exact z.elim
    | succ j => obtain ⟨_, _, _, z, _⟩ := ra.ow j c1 q1; exact z.elim
  · cases j with
    | zero => cases e; exact r.bE i _ he
    | succ j => exact ra.bE j d e
theorem io_back {σ σc : Wd} {env : EnvD} {γ : Gn} {i k : Nat} {c : Cell} {ds : List D} {o : Gn} (r : Rel σ env γ) (hi : γ[i]? = some (.ow c)) (he : env[i]? = some (some (.ref k))) (l : Le (σ.sub fun n => n = k) σc) (rc : Rel σc ((D.ref k :: ds).map some) o) :
    ∃ σ' : Wd, σ'.T = σc.T ∧ σ'.P = σc.P ∧ Le σ σ' ∧ Rel σ' env (putSl γ i o[0]?) := by
  obtain ⟨k', c', e1, e2, e3, e4⟩ := r.ow i c hi
  rw [he] at e1
  cases e1
  have hA : ∀ n, n ≠ k → σ.A n → ¬ σc.P n := fun n hn a p => by
    rcases l.pn n p with q | q | q
    · exact r.ok.dis n q a
    · exact hn q
    · have := r.ok.bA n a; have e : (σ.sub fun n => n = k).T.length = σ.T.length := rfl; omega
  have hc : ∀ n, σc.A n → n = k ∨ σ.T.length ≤ n := fun n a => l.an n a
  refine ⟨⟨σc.P, fun n => (σ.A n ∧ n ≠ k) ∨ σc.A n, σc.T⟩, rfl, rfl, ?_, ?_⟩
  · exact ⟨l.ln, l.pp, fun n h => (l.pn n h).elim .inl fun h => h.elim (fun z => .inr (.inl (by rw [show n = k from z]; exact e2))) fun h => .inr (.inr h),
      fun n h => h.elim (fun z => .inl z.1) fun h => (hc n h).elim (fun z => .inl (by rw [z]; exact e2)) .inr, fun n h na => l.kp n h fun z => na (by rw [show n = k from z]; exact e2)⟩
  · have sb : Sub σ ⟨σc.P, fun n => (σ.A n ∧ n ≠ k) ∨ σc.A n, σc.T⟩ := ⟨l.pp, fun n p => l.kp n (r.ok.bP n p) fun z => r.ok.dis n p (by rw [show n = k from z]; exact e2)⟩
    have sc : Sub σc ⟨σc.P, fun n => (σ.A n ∧ n ≠ k) ∨ σc.A n, σc.T⟩ := ⟨fun _ h => h, fun _ _ => rfl⟩
    have okk : Wd.Ok ⟨σc.P, fun n => (σ.A n ∧ n ≠ k) ∨ σc.A n, σc.T⟩ := ⟨fun n p a => a.elim (fun a => hA n a.2 a.1 p) fun a => rc.ok.dis n p a, rc.ok.bP, fun n a => a.elim (fun a => Nat.lt_of_lt_of_le (r.ok.bA n a.1) l.ln) fun a => rc.ok.bA n a⟩
    -- the other slots
    have base : Rel ⟨σc.P, fun n => (σ.A n ∧ n ≠ k) ∨ σc.A n, σc.T⟩ env (γ.set i .no) := by
      refine ⟨okk, by simp [r.len], fun j w q => ?_, fun j c2 q => ?_, fun j j2 c1 c2 n q1 q2 q3 q4 => ?_, fun j d e => noRef_mono l.ln (r.bE j d e)⟩
      · rcases getSet q with ⟨_, z⟩ | ⟨ne, q⟩
        · cases z
        · obtain ⟨d, h1, h2⟩ := r.vl j w q; exact ⟨d, h1, Rw.sub sb _ _ h2⟩
      · rcases getSet q with ⟨_, z⟩ | ⟨ne, q⟩
        · cases z
        · obtain ⟨n, c3, h1, h2, h3, h4⟩ := r.ow j c2 q
          have hn : n ≠ k := fun e => by subst e; exact ne (r.inj i j _ _ _ hi q he h1)
          exact ⟨n, c3, h1, .inl ⟨h2, hn⟩, (l.kp n (r.ok.bA n h2) hn).trans h3, Rc.sub sb h4⟩
      · rcases getSet q1 with ⟨_, z⟩ | ⟨n1, q1⟩
        · cases z
        · rcases getSet q2 with ⟨_, z⟩ | ⟨n2, q2⟩
          · cases z
          · exact r.inj j j2 c1 c2 n q1 q2 q3 q4
    have hset : ∀ (s : Sl), (γ.set i .no).set i s = γ.set i s := fun s => List.set_set ..
    have henv : env.set i (some (.ref k)) = env := by
      apply List.ext_getElem?
      intro j
      by_cases hj : i = j
      · subst hj
        rw [he]
        have hi : i < env.length := by
          rcases Nat.lt_or_ge i env.length with z | z
          · exact z
          · rw [List.getElem?_eq_none z] at he; cases he
        rw [List.getElem?_set_self hi]
      · rw [List.getElem?_set_ne hj]
    unfold putSl
    cases ho : o[0]? with
    | none => exact base
    | some s =>
      cases s with
      | no => exact base
      | vl w =>
        obtain ⟨d, h1, h2⟩ := rc.vl 0 w ho
        cases h1
        have := base.set i (Rw.sub sc _ _ h2)
        rwa [henv, hset] at this
      | ow c2 =>
        obtain ⟨n, c3, h1, h2, h3, h4⟩ := rc.ow 0 c2 ho
        cases h1
        have := base.setO (c := c2) (c' := c3) (n := k) i (.inr h2) h3 (Rc.sub sc h4) fun j e q z => by
          rcases getSet q with ⟨_, z⟩ | ⟨ne, q⟩
          · cases z
          · exact ne (r.inj i j _ _ _ hi q he z)
        rwa [henv, hset] at this
theorem sim_callIo {i n np : Nat} {pm pm' : List Nat} {dds : List D} {F : Fn} {G : GFn} {fs : As} {gs : GA} (hF : SimFn false F G) (h : SimA fs gs) (hpm : pm' = 0 :: pm.map (· + 1) := by rfl) (hd : plainDs dds = true := by rfl) :
    SimE (eN (cF (n + 1) 0 pm' dds np F) (aCons (eVar i) fs)) (gCallIo i n pm dds np G gs) := by
  intro σ env γ r
  subst hpm
  unfold gCallIo
  cases hk0 : gPk i γ with
  | exc _ _ _ => unfold gPk at hk0; split at hk0 <;> cases hk0
  | stuck => trivial
  | ok x0 γ0 =>
    obtain ⟨_, d0, hi0, _⟩ := pk_at r hk0
    have e : eN (cF (n + 1) 0 (0 :: pm.map (· + 1)) dds np F) (aCons (eVar i) fs) env σ.T = (fs env σ.T).bind fun xs S2 => cF (n + 1) 0 (0 :: pm.map (· + 1)) dds np F (d0 :: xs) S2 := by
      unfold eN aCons eVar; simp only [hi0, R.bind]; cases fs env σ.T <;> rfl
    rw [e]
    refine (h σ env γ r).bind fun xs ds σ1 γ1 _ r1 rx => ?_
    split
    · rename_i c hi
      obtain ⟨k, c', e1, e2, e3, e4⟩ := r1.ow i c hi
      have e1' := e1
      rw [hi0] at e1'
      cases e1'
      have ra : Rws σ1 (permL pm (xs ++ dds)) (permL pm (ds ++ dds)) := (rx.append (rws_plain dds hd)).perm pm
      by_cases hc : xs.length = n ∧ (permL pm (xs ++ dds)).length + 1 = np
      · unfold cF
        have pe : permL (0 :: pm.map (· + 1)) (D.ref k :: ds ++ dds) = D.ref k :: permL pm (ds ++ dds) := permL_S _ _ _
        rw [if_pos hc, if_pos ⟨by simp only [List.length_cons]; rw [← rx.length]; omega, by rw [pe, List.length_cons, ← ra.length]; exact hc.2⟩, pe]
        have := hF (σ1.sub fun n => n = k) _ _ (r1.argsIo hi e1 ra)
        simp only [Bool.false_eq_true, if_false] at this
        revert this
        cases G (.ow c :: (permL pm (xs ++ dds)).map .vl) with
        | ok w o =>
          rintro ⟨d, σc, h1, h2, h3, h4⟩
          obtain ⟨σ', z1, z2, z3, z4⟩ := io_back r1 hi e1 h2 h3
          refine ⟨d, σ', by rw [z1]; exact h1, z3, z4, Rw.sub (σ := σc) ⟨fun _ h => by rw [z2]; exact h, fun _ _ => by rw [z1]⟩ _ _ h4⟩
        | exc C fs o =>
          rintro ⟨d, σc, h1, h2, h3, h4, h5⟩
          obtain ⟨σ', z1, z2, z3, z4⟩ := io_back r1 hi e1 h2 h3
          exact ⟨d, σ', by rw [z1]; exact h1, z3, z4, h4, Rws.sub (σ := σc) ⟨fun _ h => by rw [z2]; exact h, fun _ _ => by rw [z1]⟩ _ _ h5⟩
        | stuck => intro _; trivial
      · rw [if_neg hc]; trivial
    · trivial
end
/-! ### the whole -/
theorem law_sim {N : Nat} {b : Sm} {G : GFn} {ns : List Int} (h : SimFn false (defF 1 N b) G) (e : ∃ o, G [.vl (.frl (ns.map D.int))] = .ok (.bl true) o) : defF 1 N b [.frl (ns.map D.int)] [] = .ok (.bl true) [] := by
  obtain ⟨o, e⟩ := e
  have ri : ∀ (σ : Wd) (l : List Int), Rws σ (l.map D.int) (l.map D.int) := fun σ l => by
    induction l with
    | nil => rfl
    | cons a l ih => exact ⟨_, _, rfl, rfl, ih⟩
  have r : Rel ⟨fun _ => False, fun _ => False, []⟩ ([D.frl (ns.map D.int)].map some) [.vl (.frl (ns.map D.int))] := by
    refine ⟨⟨fun _ z => z.elim, fun _ z => z.elim, fun _ z => z.elim⟩, rfl, fun i w h => ?_, fun i c h => ?_, fun i j c c' n h => ?_, fun i d h => ?_⟩
    · cases i with
      | zero => cases h; exact ⟨_, rfl, _, rfl, ri _ ns⟩
      | succ i => simp at h
    · cases i with
      | zero => cases h
      | succ i => simp at h
    · cases i with
      | zero => cases h
      | succ i => simp at h
    · cases i with
      | zero =>
        cases h
        show noRef.noRefs 0 (ns.map D.int) = true
        clear e
        induction ns with
        | nil => rfl
        | cons a l ih => simp only [List.map_cons, noRef.noRefs, noRef, Bool.true_and]; exact ih
      | succ i => simp at h
  have := h _ _ _ r
  simp only [Bool.false_eq_true, if_false, e] at this
  obtain ⟨d, σ', h1, _, _, h4⟩ := this
  have hd : d = .bl true := h4
  subst hd
  unfold defF at h1 ⊢
  rw [if_pos (show [D.frl (ns.map D.int)].length = 1 from rfl)] at h1 ⊢
  unfold flR at h1 ⊢
  have gn : ∀ (d : D) (S : Sto), gcV 0 d S = .ok (.bl true) σ'.T → gcV 0 d S = .ok (.bl true) [] := by
    intro d S z
    unfold gcV at z ⊢
    simp only [List.take_zero, List.all_nil, if_true] at z ⊢
    split at z
    · rename_i hn; rw [if_pos hn]; injection z with z1 z2; rw [z1]
    · rename_i hn
      rw [if_neg hn]
      split at z
      · exfalso
        split at z
        · split at z <;> (injection z with z1 z2; cases z1)
        · injection z with z1 z2; cases z1
      · exfalso; injection z with z1 z2; subst z1; exact hn rfl
  split at h1
  · exact gn _ _ h1
  · exact gn _ _ h1
  · cases h1
  · cases h1
end Fz

/-! Gz7: a, b = [], .. : several at once, some of them new lists. -/
namespace Fz
open PySem PySem.Spec PyProof.Rows L2

/-- a new cell that nothing names yet -/
def Pend (σ : Wd) (c : Cell) (d : D) : Prop := ∃ n c', d = .ref n ∧ σ.T[n]? = some c' ∧ Rc σ c c' ∧ ¬ σ.P n ∧ ¬ σ.A n
theorem Pend.le {σ σ' : Wd} {c : Cell} {d : D} (o : σ.Ok) (l : Le σ σ') (h : Pend σ c d) : Pend σ' c d := by
  obtain ⟨n, c', h1, h2, h3, h4, h5⟩ := h
  have hn : n < σ.T.length := by
    rcases Nat.lt_or_ge n σ.T.length with z | z
    · exact z
    · rw [List.getElem?_eq_none z] at h2; cases h2
  exact ⟨n, c', h1, (l.kp n hn h5).trans h2, Rc.sub (l.sub o) h3, fun p => (l.pn n p).elim h4 fun z => z.elim h5 fun z => by omega, fun a => (l.an n a).elim h5 fun z => by omega⟩
def Rit (σ : Wd) : Sl → D → Prop
  | .no, _ => False
  | .vl w, d => Rw σ w d
  | .ow c, d => Pend σ c d
def isOw : Sl → Bool
  | .ow _ => true
  | _ => false
def Rpa (σ : Wd) : List Sl → List D → Prop
  | [], ds => ds = []
  | s :: ss, ds => ∃ d dr, ds = d :: dr ∧ Rit σ s d ∧ Rpa σ ss dr ∧ (isOw s = true → ∀ (i : Nat) (u : Sl) (e : D), ss[i]? = some u → isOw u = true → dr[i]? = some e → d ≠ e)
theorem Rit.le {σ σ' : Wd} {s : Sl} {d : D} (o : σ.Ok) (l : Le σ σ') (h : Rit σ s d) : Rit σ' s d := by
  cases s with
  | no => exact h.elim
  | vl w => exact Rw.sub (l.sub o) _ _ h
  | ow c => exact Pend.le o l h
abbrev GPa := Gn → RG (List Sl)
def RpaN (N : Nat) (σ : Wd) (ss : List Sl) (ds : List D) : Prop := Rpa σ ss ds ∧ ∀ (i : Nat) (u : Sl) (m : Nat), ss[i]? = some u → isOw u = true → ds[i]? = some (.ref m) → N ≤ m
abbrev SimPa (f : As) (g : GPa) : Prop := ∀ σ env γ, Rel σ env γ → SimAt (RpaN σ.T.length) σ env (f env σ.T) (g γ)
theorem RpaN.mono {N N' : Nat} {σ : Wd} {ss : List Sl} {ds : List D} (h : RpaN N σ ss ds) (l : N' ≤ N) : RpaN N' σ ss ds := ⟨h.1, fun i u m a b c => Nat.le_trans l (h.2 i u m a b c)⟩
def paNil : GPa := fun γ => .ok [] γ
def paE (a : GE) (r : GPa) : GPa := fun γ => (a γ).bind fun x γ1 => (r γ1).bind fun xs γ2 => .ok (.vl x :: xs) γ2
def paF (a : GE) (r : GPa) : GPa := fun γ => (a γ).bind fun x γ1 => (r γ1).bind fun xs γ2 => match cellO x with
  | some c => .ok (.ow c :: xs) γ2
  | none => .stuck
section
variable {fa : E} {ga : GE} {fs : As} {gs : GPa}
theorem sim_panil : SimPa aNil paNil := fun σ env γ r => .here r ⟨rfl, fun i u m a => by simp at a⟩
theorem sim_paE (ha : SimE fa ga) (h : SimPa fs gs) : SimPa (aCons fa fs) (paE ga gs) := fun σ env γ r =>
  (ha σ env γ r).bind fun x d σ1 γ1 l1 r1 rv => (h σ1 env γ1 r1).bind fun xs ds σ2 γ2 l r2 ru => .here r2 ⟨⟨d, ds, rfl, Rw.sub (l.sub r1.ok) _ _ rv, ru.1, fun z => nomatch z⟩, fun i u m a b c => by
    cases i with
    | zero => simp at a; subst a; cases b
    | succ i => exact Nat.le_trans l1.ln (ru.2 i u m (by simpa using a) b (by simpa using c))⟩
theorem pend_ge {σ : Wd} {ss : List Sl} {ds : List D} (h : Rpa σ ss ds) : ∀ {i : Nat} {u : Sl} {e : D}, ss[i]? = some u → isOw u = true → ds[i]? = some e → ∃ c, Pend σ c e := by
  induction ss generalizing ds with
  | nil => intro i u e h1; simp at h1
  | cons s ss ih =>
    obtain ⟨d, dr, rfl, h1, h2, h3⟩ := h
    intro i u e q1 q2 q3
    cases i with
    | zero =>
      simp at q1 q3
      subst q1 q3
      cases s with
      | ow c => exact ⟨c, h1⟩
      | no => cases q2
      | vl w => cases q2
    | succ i => exact ih h2 (by simpa using q1) q2 (by simpa using q3)
theorem sim_paF (ha : SimFr fa ga) (h : SimPa fs gs) : SimPa (aCons fa fs) (paF ga gs) := by
  intro σ env γ r
  have h1 := ha σ env γ r
  unfold aCons paF
  revert h1
  cases ga γ with
  | stuck => intro _; trivial
  | exc C fs γ1 => rintro ⟨g, σ1, q1, q2⟩; rw [q1]; exact ⟨g, σ1, rfl, q2⟩
  | ok x γ1 =>
    rintro ⟨n, c, c', σ1, q1, l1, r1, rfl, hA, hn, rc, hl, hx⟩
    rw [q1]
    simp only [R.bind, RG.bind, cellO_W]
    -- hide the new cell
    let σ2 : Wd := ⟨σ1.P, fun k => σ1.A k ∧ k ≠ n, σ1.T⟩
    have sb : Sub σ1 σ2 := ⟨fun _ h => h, fun _ _ => rfl⟩
    have r2 : Rel σ2 env γ1 := ⟨⟨fun k p a => r1.ok.dis k p a.1, r1.ok.bP, fun k a => r1.ok.bA k a.1⟩, r1.len, fun i w q => let ⟨d, z1, z2⟩ := r1.vl i w q; ⟨d, z1, Rw.sub sb _ _ z2⟩,
      fun i e q => let ⟨k, c2, z1, z2, z3, z4⟩ := r1.ow i e q; ⟨k, c2, z1, ⟨z2, fun ek => by subst ek; exact hx i e q z1⟩, z3, Rc.sub sb z4⟩, r1.inj, r1.bE⟩
    have l2 : Le σ σ2 := ⟨l1.ln, l1.pp, l1.pn, fun k a => l1.an k a.1, l1.kp⟩
    have p2 : Pend σ2 c (.ref n) := ⟨n, c', rfl, hn, Rc.sub sb rc, fun p => r1.ok.dis n p hA, fun a => a.2 rfl⟩
    have h3 := h σ2 env γ1 r2
    refine SimAt.le l2 ?_
    revert h3
    have hnl : n < σ2.T.length := r1.ok.bA n hA
    show SimAt (RpaN σ2.T.length) σ2 env (fs env σ2.T) (gs γ1) → SimAt (RpaN σ.T.length) σ2 env ((fs env σ2.T).bind fun xs S2 => .ok (.ref n :: xs) S2) _
    cases gs γ1 with
    | stuck => intro _; trivial
    | exc C fs γ2 => rintro ⟨g, σ3, z1, z2⟩; rw [z1]; exact ⟨g, σ3, rfl, z2⟩
    | ok xs γ2 =>
      rintro ⟨ds, σ3, z1, l3, r3, ru⟩
      rw [z1]
      refine ⟨_, σ3, rfl, l3, r3, ⟨_, _, rfl, p2.le r2.ok l3, ru.1, fun _ i u e e1 e2 e3 => ?_⟩, fun i u m a b cc => ?_⟩
      · intro z
        subst z
        have := ru.2 i u n e1 e2 e3
        omega
      · cases i with
        | zero => simp at cc; omega
        | succ i => have := ru.2 i u m (by simpa using a) b (by simpa using cc); have := l2.ln; omega
/-- an item put into a slot -/
theorem put_it {σ : Wd} {env : EnvD} {γ : Gn} {s : Sl} {d : D} (r : Rel σ env γ) (i : Nat) (h : Rit σ s d) : ∃ σ', σ'.T = σ.T ∧ Le σ' σ' ∧ Sub σ σ' ∧ Rel σ' (env.set i (some d)) (γ.set i s) ∧ (∀ n, σ'.P n ↔ σ.P n) ∧ (∀ n, σ'.A n ↔ σ.A n ∨ (isOw s = true ∧ d = .ref n)) := by
  cases s with
  | no => exact h.elim
  | vl w => exact ⟨σ, rfl, .refl _, ⟨fun _ h => h, fun _ _ => rfl⟩, r.set i h, fun _ => Iff.rfl, fun n => ⟨.inl, fun z => z.elim id fun z => nomatch z.1⟩⟩
  | ow c =>
    obtain ⟨n, c', rfl, h2, h3, h4, h5⟩ := h
    let σ2 : Wd := ⟨σ.P, fun k => σ.A k ∨ k = n, σ.T⟩
    have hn : n < σ.T.length := by
      rcases Nat.lt_or_ge n σ.T.length with z | z
      · exact z
      · rw [List.getElem?_eq_none z] at h2; cases h2
    have sb : Sub σ σ2 := ⟨fun _ h => h, fun _ _ => rfl⟩
    have r2 : Rel σ2 env γ := ⟨⟨fun k p a => a.elim (r.ok.dis k p) fun e => h4 (e ▸ p), r.ok.bP, fun k a => a.elim (r.ok.bA k) fun e => e ▸ hn⟩, r.len, fun i w q => let ⟨d, z1, z2⟩ := r.vl i w q; ⟨d, z1, Rw.sub sb _ _ z2⟩,
      fun i e q => let ⟨k, c2, z1, z2, z3, z4⟩ := r.ow i e q; ⟨k, c2, z1, .inl z2, z3, Rc.sub sb z4⟩, r.inj, r.bE⟩
    refine ⟨σ2, rfl, .refl _, sb, r2.setO i (.inr rfl) h2 (Rc.sub sb h3) fun j e q z => ?_, fun _ => Iff.rfl, fun k => ⟨fun a => a.elim .inl fun e => .inr ⟨rfl, by rw [e]⟩, fun a => a.elim .inl fun e => .inr (by have := e.2; cases this; rfl)⟩⟩
    obtain ⟨k, c2, z1, z2, _⟩ := r.ow j e q
    rw [z] at z1; cases z1; exact h5 z2
theorem Rit.put {σ σ' : Wd} {s s' : Sl} {d d' : D} (eT : σ'.T = σ.T) (sb : Sub σ σ') (hP : ∀ n, σ'.P n ↔ σ.P n) (hA : ∀ n, σ'.A n ↔ σ.A n ∨ (isOw s = true ∧ d = .ref n)) (hd : isOw s = true → isOw s' = true → d ≠ d') (h : Rit σ s' d') : Rit σ' s' d' := by
  cases s' with
  | no => exact h.elim
  | vl w => exact Rw.sub sb _ _ h
  | ow c =>
    obtain ⟨n, c', rfl, h2, h3, h4, h5⟩ := h
    exact ⟨n, c', rfl, by rw [eT]; exact h2, Rc.sub sb h3, fun p => h4 ((hP n).mp p), fun a => ((hA n).mp a).elim h5 fun z => hd z.1 rfl z.2⟩
end
def qParO2 (i j : Nat) (as : GPa) : GS := fun γ => (as γ).fl fun ss γ1 => match ss with
  | [a, b] => .nx ((γ1.set i a).set j b)
  | _ => .stuck
def qParO3 (i j l : Nat) (as : GPa) : GS := fun γ => (as γ).fl fun ss γ1 => match ss with
  | [a, b, c] => .nx (((γ1.set i a).set j b).set l c)
  | _ => .stuck
section
variable {fl : Nat → Prop} {fr : Bool} {fs : As} {gs : GPa}
theorem le_put {σ σ' : Wd} {s : Sl} {d : D} (eT : σ'.T = σ.T) (hP : ∀ n, σ'.P n ↔ σ.P n) (hA : ∀ n, σ'.A n ↔ σ.A n ∨ (isOw s = true ∧ d = .ref n)) {N : Nat} (hN : ∀ m, isOw s = true → d = .ref m → N ≤ m) {σ0 : Wd} (l : Le σ0 σ) (e0 : N = σ0.T.length) : Le σ0 σ' :=
  ⟨by rw [eT]; exact l.ln, fun n h => (hP n).mpr (l.pp n h), fun n h => l.pn n ((hP n).mp h), fun n h => ((hA n).mp h).elim (l.an n) fun z => .inr (by rw [← e0]; exact hN n z.1 z.2), fun n h na => by rw [eT]; exact l.kp n h na⟩
theorem sim_parO2 {i j : Nat} (h : SimPa fs gs) (hi : Free fl i := by decide) (hj : Free fl j := by decide) : SimS fl fr (sPar2 i j fs) (qParO2 i j gs) := fun n0 σ env γ hn r => by
  have h1 := h σ env γ r
  unfold sPar2 qParO2
  revert h1
  cases gs γ with
  | stuck => intro _; trivial
  | exc C fs γ1 => rintro ⟨g, σ1, q1, l, r1, q2⟩; rw [q1]; exact ⟨g, env, σ1, rfl, l, r1, keep.refl _ _, q2⟩
  | ok ss γ1 =>
    rintro ⟨ds, σ1, q1, l, r1, ⟨rp, rn⟩⟩
    rw [q1]
    rcases ss with _ | ⟨a, _ | ⟨b, _ | ⟨c, ws⟩⟩⟩
    · trivial
    · trivial
    · obtain ⟨d, _, rfl, h1, ⟨e, _, rfl, h2, h3, _⟩, hd⟩ := rp
      have z : _ = [] := h3
      subst z
      obtain ⟨σ2, t2, _, s2, r2, P2, A2⟩ := put_it r1 i h1
      obtain ⟨σ3, t3, _, s3, r3, P3, A3⟩ := put_it r2 j (h2.put t2 s2 P2 A2 fun x y => hd x 0 b e rfl y rfl)
      have l2 : Le σ σ2 := le_put t2 P2 A2 (fun m x y => rn 0 a m rfl x (by rw [y]; rfl)) l rfl
      have l3 : Le σ σ3 := le_put t3 P3 A3 (fun m x y => rn 1 b m rfl x (by rw [y]; rfl)) l2 rfl
      exact ⟨_, σ3, by rw [t3, t2]; rfl, l3, r3, (keep.set hi _ _).trans (keep.set hj _ _)⟩
    · trivial
theorem sim_parO3 {i j k : Nat} (h : SimPa fs gs) (hi : Free fl i := by decide) (hj : Free fl j := by decide) (hk : Free fl k := by decide) : SimS fl fr (sPar3 i j k fs) (qParO3 i j k gs) := fun n0 σ env γ hn r => by
  have h1 := h σ env γ r
  unfold sPar3 qParO3
  revert h1
  cases gs γ with
  | stuck => intro _; trivial
  | exc C fs γ1 => rintro ⟨g, σ1, q1, l, r1, q2⟩; rw [q1]; exact ⟨g, env, σ1, rfl, l, r1, keep.refl _ _, q2⟩
  | ok ss γ1 =>
    rintro ⟨ds, σ1, q1, l, r1, ⟨rp, rn⟩⟩
    rw [q1]
    rcases ss with _ | ⟨a, _ | ⟨b, _ | ⟨c, _ | ⟨c2, ws⟩⟩⟩⟩
    · trivial
    · trivial
    · trivial
    · obtain ⟨d, _, rfl, h1, ⟨e, _, rfl, h2, ⟨f, _, rfl, h3, h4, _⟩, hd2⟩, hd⟩ := rp
      have z : _ = [] := h4
      subst z
      obtain ⟨σ2, t2, _, s2, r2, P2, A2⟩ := put_it r1 i h1
      obtain ⟨σ3, t3, _, s3, r3, P3, A3⟩ := put_it r2 j (h2.put t2 s2 P2 A2 fun x y => hd x 0 b e rfl y rfl)
      obtain ⟨σ4, t4, _, s4, r4, P4, A4⟩ := put_it r3 k ((h3.put t2 s2 P2 A2 fun x y => hd x 1 c f rfl y rfl).put t3 s3 P3 A3 fun x y => hd2 x 0 c f rfl y rfl)
      have l2 : Le σ σ2 := le_put t2 P2 A2 (fun m x y => rn 0 a m rfl x (by rw [y]; rfl)) l rfl
      have l3 : Le σ σ3 := le_put t3 P3 A3 (fun m x y => rn 1 b m rfl x (by rw [y]; rfl)) l2 rfl
      have l4 : Le σ σ4 := le_put t4 P4 A4 (fun m x y => rn 2 c m rfl x (by rw [y]; rfl)) l3 rfl
      exact ⟨_, σ4, by rw [t4, t3, t2]; rfl, l4, r4, ((keep.set hi _ _).trans (keep.set hj _ _)).trans (keep.set hk _ _)⟩
    · trivial
end
end Fz

/-! Gz8: zip. -/
namespace Fz
open PySem PySem.Spec PyProof.Rows L2
def zipW : List D → List D → List D
  | x :: xs, y :: ys => .tup [x, y] :: zipW xs ys
  | _, _ => []
theorem zipW_get : ∀ (xs ys : List D) (i : Nat), (zipW xs ys)[i]? = zpAt xs ys i
  | [], ys, i => by simp [zipW, zpAt]
  | x :: xs, [], i => by cases i <;> simp [zipW, zpAt]
  | x :: xs, y :: ys, 0 => rfl
  | x :: xs, y :: ys, i + 1 => by simpa [zipW, zpAt] using zipW_get xs ys i
theorem zipW_len : ∀ (xs ys : List D), (zipW xs ys).length = min xs.length ys.length
  | [], ys => by simp [zipW]
  | x :: xs, [] => by simp [zipW]
  | x :: xs, y :: ys => by simp only [zipW, List.length_cons, zipW_len xs ys]; omega
def wZip : List D → Option (List D)
  | [.lsv xs, .lsv ys] => some (zipW xs ys)
  | [.tup xs, .tup ys] => some (zipW xs ys)
  | _ => none
theorem rws_zpAt {σ : Wd} {xs ys us vs : List D} {i : Nat} (h1 : Rws σ xs us) (h2 : Rws σ ys vs) : (zpAt xs ys i = none → zpAt us vs i = none) ∧ ∀ w, zpAt xs ys i = some w → ∃ d, zpAt us vs i = some d ∧ Rw σ w d := by
  refine ⟨fun q => ?_, fun w q => ?_⟩
  · unfold zpAt
    rcases zpAt_none q with z | z
    · rw [List.getElem?_eq_none_iff.mpr (by rw [← h1.length]; exact z)]
    · rw [List.getElem?_eq_none_iff.mpr (show vs.length ≤ i by rw [← h2.length]; exact z)]
      split <;> first | rfl | (rename_i a b c d e; cases e)
  · obtain ⟨x, y, e1, e2, rfl⟩ := zpAt_some q
    obtain ⟨u, z1, z2⟩ := h1.get e1
    obtain ⟨v, z3, z4⟩ := h2.get e2
    exact ⟨.tup [u, v], by unfold zpAt; rw [z1, z3], _, rfl, u, _, rfl, z2, v, _, rfl, z4, rfl⟩
theorem w_zip : WI zipOf wZip := by
  intro σ ws ds l o r h
  unfold wZip at h
  split at h
  · rename_i xs ys
    cases h
    obtain ⟨_, _, rfl, h1, _, _, rfl, h2, h3⟩ := r
    have e3 : _ = [] := h3
    subst e3
    obtain ⟨n, us, rfl, hp, q, h1⟩ := h1
    obtain ⟨m, vs, rfl, hp', q', h2⟩ := h2
    refine ⟨cZip n m (min us.length vs.length), by simp only [zipOf, q, q'], ?_, fun σ' b i => ?_⟩
    · rw [zipW_len, h1.length, h2.length]; rfl
    · have z : (cZip n m (min us.length vs.length)).get i σ'.T = some (zpAt us vs i) := by
        simp only [cZip, (b.kp n hp).trans q, (b.kp m hp').trans q']
      rw [z, zipW_get]
      obtain ⟨a1, a2⟩ := rws_zpAt (i := i) h1 h2
      refine ⟨fun e => by rw [a1 e], fun w e => ?_⟩
      obtain ⟨d, z1, z2⟩ := a2 w e
      exact ⟨d, by rw [z1], Rw.sub b _ _ z2⟩
  · rename_i xs ys
    cases h
    obtain ⟨_, _, rfl, h1, _, _, rfl, h2, h3⟩ := r
    have e3 : _ = [] := h3
    subst e3
    obtain ⟨us, rfl, h1⟩ := h1
    obtain ⟨vs, rfl, h2⟩ := h2
    refine ⟨tZip us vs (min us.length vs.length), rfl, ?_, fun σ' b i => ?_⟩
    · rw [zipW_len, h1.length, h2.length]; rfl
    · rw [show (tZip us vs (min us.length vs.length)).get i σ'.T = some (zpAt us vs i) from rfl, zipW_get]
      obtain ⟨a1, a2⟩ := rws_zpAt (i := i) h1 h2
      refine ⟨fun e => by rw [a1 e], fun w e => ?_⟩
      obtain ⟨d, z1, z2⟩ := a2 w e
      exact ⟨d, by rw [z1], Rw.sub b _ _ z2⟩
  · cases h
end Fz

/-! Gz9: a call of a slot that holds a lambda. -/
namespace Fz
open PySem PySem.Spec PyProof.Rows L2
abbrev GTab := List (Str × Nat × GFn)
def gCallL (tb : GTab) (i : Nat) (as : GA) : GE := fun γ => match γ[i]? with
  | some (.vl (.lam nm)) => (match tb.lookup nm with
    | some (np, G) => gCall np 0 (List.range np) [] np G as γ
    | none => .stuck)
  | _ => .stuck
inductive SimTab : LTab → GTab → Prop
  | nil : SimTab [] []
  | cons {nm : Str} {np : Nat} {F : Fn} {G : GFn} {tf : LTab} {tg : GTab} (h : SimFn false F G) (t : SimTab tf tg) : SimTab ((nm, np, F) :: tf) ((nm, np, G) :: tg)
theorem SimTab.look {tf : LTab} {tg : GTab} (t : SimTab tf tg) {nm : Str} {np : Nat} {G : GFn} (h : tg.lookup nm = some (np, G)) : ∃ F, tf.lookup nm = some (np, F) ∧ SimFn false F G := by
  induction t with
  | nil => cases h
  | cons hs t ih =>
    rw [List.lookup_cons] at h ⊢
    split at h
    · rename_i q
      cases h
      exact ⟨_, rfl, hs⟩
    · rename_i q
      exact ih h
theorem perm_range {α : Type} : ∀ l : List α, permL (List.range l.length) l = l
  | [] => rfl
  | x :: l => by
    have ih := perm_range l
    unfold permL at ih ⊢
    rw [List.length_cons, List.range_succ_eq_map, List.filterMap_cons_some (f := fun i => (x :: l)[i]?) (a := 0) (b := x) rfl, List.filterMap_map]
    exact congrArg (x :: ·) ih
/-- the call -/
theorem sim_calll {tf : LTab} {tg : GTab} (t : SimTab tf tg) {fs : As} {gs : GA} (h : SimA fs gs) (i : Nat) : SimE (eCallL tf i fs) (gCallL tg i gs) := by
  intro σ env γ r
  unfold gCallL
  split
  · rename_i nm hi
    obtain ⟨d, he, hd⟩ := r.vl i _ hi
    have e : d = .lam nm := hd
    subst e
    split
    · rename_i np G hg
      obtain ⟨F, hf, hs⟩ := t.look hg
      have e2 : eCallL tf i fs env σ.T = eN (cF np 0 (List.range np) [] np F) fs env σ.T := by
        unfold eCallL eN
        simp only [he, lamCall, hf]
        congr 1
        funext ds S
        unfold cF
        by_cases hl : ds.length = np
        · have : permL (List.range np) (ds ++ []) = ds := by rw [List.append_nil, ← hl]; exact perm_range ds
          rw [if_pos hl, this, if_pos ⟨hl, hl⟩]
        · rw [if_neg hl, if_neg (fun z => hl z.1)]
      rw [e2]
      exact sim_call hs h rfl σ env γ r
    · trivial
  · trivial
end Fz

/-! Gz10: enumerate over lists and tuples. -/
namespace Fz
open PySem PySem.Spec PyProof.Rows L2
def wEnA : D → Option (List D)
  | .lsv ws => some (enumW ws)
  | .tup ws => some (enumW ws)
  | _ => none
def giEnA (a : GE) : GI := fun γ => (a γ).bind fun w γ1 => gOpt (wEnA w) γ1
theorem enumW_get {ws : List D} (i : Nat) : (enumW ws)[i]? = ws[i]?.map fun d => .tup [.int (i : Nat), d] := enumD_get i
theorem sim_ienA {fa : E} {ga : GE} (h : SimE fa ga) : SimI (iArg enA (aCons fa aNil)) (giEnA ga) := by
  intro σ env γ r
  have e : iArg enA (aCons fa aNil) env σ.T = (fa env σ.T).bind fun x S => enA [x] S := by
    unfold iArg aCons aNil; cases fa env σ.T <;> rfl
  rw [e]
  refine (h σ env γ r).bind fun w d σ1 γ1 l r1 rv => .opt r1 fun ws hw => ?_
  cases w <;> simp only [wEnA] at hw <;> try cases hw
  · obtain ⟨ds, rfl, h2⟩ := rv
    refine ⟨cSeq (enumD ds), rfl, by simp [cSeq, enumD, enumW, h2.length], fun σ' b i => ⟨fun he => ?_, fun w he => ?_⟩⟩
    · rw [enumW_get, Option.map_eq_none_iff] at he
      show some (enumD ds)[i]? = _
      rw [enumD_get, h2.getN he]; rfl
    · rw [enumW_get] at he
      obtain ⟨u, h4, rfl⟩ := Option.map_eq_some_iff.mp he
      obtain ⟨d, h5, h6⟩ := h2.get h4
      exact ⟨_, by show some (enumD ds)[i]? = _; rw [enumD_get, h5]; rfl, _, rfl, .int _, _, rfl, rfl, d, [], rfl, Rw.sub b _ _ h6, rfl⟩
  · obtain ⟨n, ds, rfl, hp, q, h2⟩ := rv
    refine ⟨cEn n ds.length, by simp only [enA, enOf, q], by simp [cEn, enumW, h2.length], fun σ' b i => ?_⟩
    have q' := (b.kp n hp).trans q
    have eg : (cEn n ds.length).get i σ'.T = some (ds[i]?.map fun d => .tup [.int (i : Nat), d]) := by
      show (match σ'.T[n]? with | some (.lst ds) => _ | _ => none) = _; rw [q']
    rw [eg]
    refine ⟨fun he => ?_, fun w he => ?_⟩
    · rw [enumW_get, Option.map_eq_none_iff] at he
      rw [h2.getN he]; rfl
    · rw [enumW_get] at he
      obtain ⟨u, h4, rfl⟩ := Option.map_eq_some_iff.mp he
      obtain ⟨d, h5, h6⟩ := h2.get h4
      rw [h5]
      exact ⟨_, rfl, _, rfl, .int _, _, rfl, rfl, d, [], rfl, Rw.sub b _ _ h6, rfl⟩
def wRevA (w : D) : Option D := match w with
  | .tup ds => some (.tup ds.reverse)
  | w => wRev w
theorem w_revA : W1 vRevA wRevA := by
  intro σ w d o r
  cases w with
  | tup ws =>
    obtain ⟨ds, rfl, h⟩ := r
    exact .some o ⟨_, rfl, h.reverse⟩
  | ref k => exact r.elim
  | non => obtain rfl : d = .non := r; exact w_rev σ (.non) (.non) o rfl
  | bl b => obtain rfl : d = .bl b := r; exact w_rev σ (.bl b) (.bl b) o rfl
  | int b => obtain rfl : d = .int b := r; exact w_rev σ (.int b) (.int b) o rfl
  | str b => obtain rfl : d = .str b := r; exact w_rev σ (.str b) (.str b) o rfl
  | fn b => obtain rfl : d = .fn b := r; exact w_rev σ (.fn b) (.fn b) o rfl
  | lam b => obtain rfl : d = .lam b := r; exact w_rev σ (.lam b) (.lam b) o rfl
  | frl ws =>
    have := w_rev σ _ _ o r
    obtain ⟨ds, rfl, h⟩ := r
    exact this
  | lsv ws =>
    have := w_rev σ _ _ o r
    obtain ⟨n, ds, rfl, h⟩ := r
    exact this
  | dct ks ws =>
    have := w_rev σ _ _ o r
    obtain ⟨n, ds, rfl, h⟩ := r
    exact this
def wLcm := wII fun i j => if i.natAbs < 2 ^ 64 ∧ j.natAbs < 2 ^ 64 then some (.int ((Nat.lcm i.natAbs j.natAbs : Nat) : Int)) else none
theorem w_lcm : WN Lcm.vLcm wLcm := w_ii (fun i j x S h => by
  split at h
  · rename_i hc
    cases h
    simp only [Lcm.vLcm, if_pos hc]
  · cases h) fun _ _ _ _ h => by
  split at h
  · cases h; rfl
  · cases h
end Fz

/-! Pm: plain lemmas: sizes, fractions in least parts, what is shown. -/
namespace Fz
open PySem PySem.Spec PyProof.Rows L2
def cellQ (o : Option Cell) (Q : List D → Prop) : Prop := match o with
  | some (.lst ds) => Q ds
  | _ => False
def optQ {α : Type} (o : Option α) (Q : α → Prop) : Prop := match o with
  | some a => Q a
  | none => False
theorem cellQ_lst (ds : List D) (Q : List D → Prop) : cellQ (some (.lst ds)) Q = Q ds := rfl
theorem optQ_some {α : Type} (a : α) (Q : α → Prop) : optQ (some a) Q = Q a := rfl
theorem optQ_none {α : Type} (Q : α → Prop) : optQ none Q = False := rfl
theorem atI_nat {α : Type} (xs : List α) (k : Nat) : L2.atI xs (k : Int) = xs[k]? := by
  unfold L2.atI L2.ixN
  rw [if_pos (by omega)]
  by_cases h : k < xs.length
  · rw [if_pos (by omega)]; simp
  · rw [if_neg (by omega), List.getElem?_eq_none (by omega)]; rfl
theorem atI_0 {α : Type} (xs : List α) : L2.atI xs 0 = xs[0]? := atI_nat xs 0
theorem atI_1 {α : Type} (xs : List α) : L2.atI xs 1 = xs[1]? := atI_nat xs 1
theorem atI_n {α : Type} (xs : List α) (k : Nat) : L2.atI xs (no_index (OfNat.ofNat k)) = xs[(OfNat.ofNat k : Nat)]? := atI_nat xs k
theorem atI_neg {α : Type} (xs : List α) (k : Nat) (h : 0 < k) (hk : k ≤ xs.length) : L2.atI xs (-(k : Int)) = xs[xs.length - k]? := by
  unfold L2.atI L2.ixN
  rw [if_neg (by omega), if_pos (by omega)]
  show xs[(_ : Int).toNat]? = _
  congr 1; omega
theorem ixN_nat (n k : Nat) : L2.ixN n (k : Int) = if k < n then some k else none := by
  unfold L2.ixN
  rw [if_pos (by omega)]
  by_cases h : k < n
  · rw [if_pos (by omega), if_pos h]; rfl
  · rw [if_neg (by omega), if_neg h]
theorem ixN_0 (n : Nat) : L2.ixN n 0 = if 0 < n then some 0 else none := ixN_nat n 0
theorem ixN_1 (n : Nat) : L2.ixN n 1 = if 1 < n then some 1 else none := ixN_nat n 1
theorem ixN_n (n k : Nat) : L2.ixN n (no_index (OfNat.ofNat k)) = if (OfNat.ofNat k : Nat) < n then some (OfNat.ofNat k : Nat) else none := ixN_nat n k
theorem if_false' {c : Prop} [Decidable c] (a : Prop) : (if c then a else False) = (c ∧ a) := by by_cases h : c <;> simp [h]
theorem if_true' {c : Prop} [Decidable c] (a : Prop) : (if c then False else a) = (¬c ∧ a) := by by_cases h : c <;> simp [h]
theorem shI (i : Int) : SeqAt.shaped (.int i) = true := by simp [SeqAt.shaped, PyData.canLay0, PyData.depth]
theorem mapO_nil {α β : Type} (f : α → Option β) : mapO f [] = some [] := rfl
theorem mapO_cons {α β : Type} (f : α → Option β) (a : α) (as : List α) (b : β) (bs : List β) (h : f a = some b) (h' : mapO f as = some bs) : mapO f (a :: as) = some (b :: bs) := by simp only [mapO, h, h']
mutual
theorem eqv_self : ∀ p : PyData, p.hasDict = false → PyData.eqv p p = true
  | .none, _ => by simp [PyData.eqv]
  | .bool _, _ => by simp [PyData.eqv]
  | .int _, _ => by simp [PyData.eqv]
  | .str _, _ => by simp [PyData.eqv]
  | .list xs, h => by rw [PyData.eqv]; exact eqvAll_self xs (by simpa [PyData.hasDict] using h)
  | .tuple xs, h => by rw [PyData.eqv]; exact eqvAll_self xs (by simpa [PyData.hasDict] using h)
  | .dict _, h => by simp [PyData.hasDict] at h
theorem eqvAll_self : ∀ ps : List PyData, PyData.hasDictAll ps = false → PyData.eqvAll ps ps = true
  | [], _ => by simp [PyData.eqvAll]
  | p :: ps, h => by
    simp only [PyData.hasDictAll, Bool.or_eq_false_iff] at h
    rw [PyData.eqvAll, eqv_self p h.1, eqvAll_self ps h.2]; rfl
end
theorem intsD_get {lo c : Int} {n i : Nat} {d : D} (h : (intsD lo c n)[i]? = some d) : i < n ∧ d = .int (lo + i * c) := by
  unfold intsD at h
  rw [List.getElem?_map] at h
  by_cases hi : i < n
  · rw [List.getElem?_range hi] at h; exact ⟨hi, (Option.some.inj h).symm⟩
  · rw [List.getElem?_eq_none (by simpa using hi)] at h; cases h
theorem intsD_len (lo c : Int) (n : Nat) : (intsD lo c n).length = n := by simp [intsD]
theorem bls_map {α : Type} (f : α → Bool) (xs : List α) : blsOf (xs.map fun x => D.bl (f x)) = some (xs.map f) := by
  induction xs with
  | nil => rfl
  | cons x xs ih => simp only [List.map_cons, blsOf, ih]; rfl
theorem ints_map {α : Type} (f : α → Int) (xs : List α) : intsOf (xs.map fun x => D.int (f x)) = some (xs.map f) := by
  induction xs with
  | nil => rfl
  | cons x xs ih => simp only [List.map_cons, intsOf, ih]; rfl
theorem cutD_map {α β : Type} (f : α → β) (xs : List α) (l u : Option Int) : cutD (xs.map f) l u = (cutD xs l u).map f := by
  unfold cutD; rw [List.length_map, List.map_take, List.map_drop]
theorem ints_int (xs : List Int) : intsOf (xs.map D.int) = some xs := by
  have := ints_map id xs
  rw [List.map_id] at this; exact this
theorem mul_l {i j : Int} (h1 : -(2 ^ 64) < i) (h2 : i < 2 ^ 64) : mulOk i j := .inr (.inl ⟨h1, h2⟩)
theorem mul_r {i j : Int} (h1 : -(2 ^ 64) < j) (h2 : j < 2 ^ 64) : mulOk i j := .inr (.inr ⟨h1, h2⟩)
theorem sIx_neg (n d : Nat) (k : Nat) (h : 0 < k) : HT.sIx n d (some (-(k : Int))) = n - k := by
  show (if (-(k : Int)) < 0 then (-(k : Int) + (n : Int)).toNat else min (-(k : Int)).toNat n) = _
  rw [if_pos (by omega)]; omega
theorem cut_last {α : Type} {w : List α} (h : w ≠ []) : Fz.cutD w (some (-1)) none = [w.getLast h] := by
  have e1 : HT.sIx w.length 0 (some (-1)) = w.length - 1 := sIx_neg w.length 0 1 (by omega)
  have e2 : HT.sIx w.length w.length none = w.length := rfl
  have hlen : 0 < w.length := List.length_pos_iff.mpr h
  unfold Fz.cutD
  rw [e1, e2, show w.length - (w.length - 1) = 1 by omega]
  have e3 : w.drop (w.length - 1) = [w.getLast h] := by
    conv => lhs; rw [← List.dropLast_concat_getLast h]
    rw [List.drop_append_of_le_length (by simp), List.length_append, List.length_dropLast, List.length_singleton]
    rw [show w.length - 1 + 1 - 1 = w.dropLast.length by simp, List.drop_length]; rfl
  rw [e3]; rfl
def cst : PyData → Nat
  | .none => 4
  | .bool _ => 5
  | .int i => i.natAbs.log2 + 2
  | .str x => 10 * x.length + 2
  | .list xs => csts xs + 2
  | .tuple xs => csts xs + 3
  | .dict _ => 0
where csts : List PyData → Nat
  | [] => 0
  | x :: xs => cst x + 2 + csts xs
def asc : PyData → Bool
  | .none => true
  | .bool _ => true
  | .int i => decide (i.natAbs.log2 < 1920)
  | .str x => x.cps.all (· < 128)
  | .list xs => ascs xs
  | .tuple xs => ascs xs
  | .dict _ => false
where ascs : List PyData → Bool
  | [] => true
  | x :: xs => asc x && ascs xs
theorem len_int (i : Int) : (PyData.int i).shown.length ≤ i.natAbs.log2 + 2 := by
  have h := int_text_length_le (a := i) (k := i.natAbs.log2 + 1) (by omega) (by omega)
  show (Str.ofString (toString i)).length ≤ _
  rw [PySem.ofString_length]; omega
theorem rc_len (q c : Nat) (h : c < 128) : (Builtin.Str.reprChar q c).length ≤ 4 := by
  have hp : ∀ c : Nat, c < 128 → ((Nat.toDigits 16 c).map Char.toNat).length ≤ 2 := by decide +kernel
  unfold Builtin.Str.reprChar
  have := hp c h
  simp only
  repeat' split
  all_goals first
    | (simp; done)
    | (simp only [List.length_append, List.length_cons, List.length_nil, List.length_replicate]; omega)
    | omega
theorem fold_len (q : Nat) : ∀ (l : List Nat) (n : Nat), (∀ c ∈ l, c < 128) → l.foldl (fun n c => n + (Builtin.Str.reprChar q c).length) n ≤ n + 4 * l.length
  | [], n, _ => by simp
  | c :: l, n, h => by
    have h1 := fold_len q l (n + (Builtin.Str.reprChar q c).length) fun c hc => h c (List.mem_cons_of_mem _ hc)
    have h2 := rc_len q c (h c List.mem_cons_self)
    simp only [List.foldl_cons, List.length_cons] at h1 ⊢
    omega
theorem len_str (x : Str) (h : x.cps.all (· < 128) = true) : (PyData.str x).shown.length ≤ 10 * x.length + 2 := by
  show (reprText x).length ≤ _
  rw [← reprLen_eq, ← Array.foldl_toList]
  have h' : ∀ c ∈ x.cps.toList, c < 128 := by
    intro c hc
    rw [Array.all_eq_true'] at h
    exact of_decide_eq_true (h c (Array.mem_def.mpr hc))
  have := fold_len (reprQuote x) x.cps.toList 2 h'
  have e : x.cps.toList.length = x.length := rfl
  omega
theorem len_join : ∀ ts : List Str, (Str.join ", " ts).length ≤ piled ts
  | [] => Nat.zero_le _
  | t :: ts => by have := join_length_add (t :: ts) (by simp); omega
theorem len_list : ∀ ts : List Str, (listText ts).length ≤ piled ts + 2
  | [] => by decide
  | t :: r => by
    have h := textFrom_length_pos r 1 (("[" : Str) ++ (if (0 : Nat) > 0 then ", " else "" : String) ++ t) (Nat.succ_pos 0)
    have e : ((("[" : Str) ++ (if (0 : Nat) > 0 then ", " else "" : String) ++ t)).length = 1 + t.length := by
      rw [strLen_append, strLen_append]; rfl
    have hX : (listText (t :: r)).length = (textFrom 0 "[" (t :: r)).length + 1 := by
      show (textFrom 0 "[" (t :: r) ++ "]").length = _
      rw [strLen_append]; rfl
    have hY : (textFrom 0 "[" (t :: r)).length = (textFrom 1 (("[" : Str) ++ (if (0 : Nat) > 0 then ", " else "" : String) ++ t) r).length := rfl
    rw [hX, hY, h, e, piled_cons]; omega
theorem len_tuple (ts : List Str) : (tupleText ts).length ≤ piled ts + 3 := by
  unfold tupleText
  rw [strLen_append, strLen_append]
  have e1 : ((("(" : String) : Str)).length = 1 := rfl
  have e3 : (((if ts.length == 1 then ",)" else ")" : String) : Str)).length ≤ 2 := by split <;> decide
  have := len_join ts
  omega
mutual
theorem shown_le : ∀ p : PyData, asc p = true → p.shown.length ≤ cst p
  | .none, _ => by decide
  | .bool b, _ => by cases b <;> decide
  | .int i, _ => len_int i
  | .str x, h => len_str x h
  | .list xs, h => by
    have h1 := len_list (PyData.shownAll xs)
    have h2 := showns_le xs h
    show (listText (PyData.shownAll xs)).length ≤ cst.csts xs + 2
    omega
  | .tuple xs, h => by
    have h1 := len_tuple (PyData.shownAll xs)
    have h2 := showns_le xs h
    show (tupleText (PyData.shownAll xs)).length ≤ cst.csts xs + 3
    omega
  | .dict _, h => by cases h
theorem showns_le : ∀ ps : List PyData, asc.ascs ps = true → piled (PyData.shownAll ps) ≤ cst.csts ps
  | [], _ => Nat.le_refl _
  | p :: ps, h => by
    have h' := Bool.and_eq_true_iff.mp h
    have h1 := shown_le p h'.1
    have h2 := showns_le ps h'.2
    show piled (p.shown :: PyData.shownAll ps) ≤ cst p + 2 + cst.csts ps
    rw [piled_cons]; omega
end
mutual
theorem asc_show : ∀ p : PyData, asc p = true → p.showable = true ∧ p.hasDict = false
  | .none, _ => ⟨rfl, rfl⟩
  | .bool b, _ => ⟨rfl, rfl⟩
  | .int i, h => ⟨h, rfl⟩
  | .str x, h => ⟨rfl, rfl⟩
  | .list xs, h => by have := ascs_show xs h; exact ⟨by rw [PyData.showable]; exact this.1, by rw [PyData.hasDict]; exact this.2⟩
  | .tuple xs, h => by have := ascs_show xs h; exact ⟨by rw [PyData.showable]; exact this.1, by rw [PyData.hasDict]; exact this.2⟩
  | .dict _, h => by cases h
theorem ascs_show : ∀ ps : List PyData, asc.ascs ps = true → PyData.showableAll ps = true ∧ PyData.hasDictAll ps = false
  | [], _ => ⟨rfl, rfl⟩
  | p :: ps, h => by
    have h' := Bool.and_eq_true_iff.mp h
    have h1 := asc_show p h'.1
    have h2 := ascs_show ps h'.2
    exact ⟨by rw [PyData.showableAll, h1.1, h2.1]; rfl, by rw [PyData.hasDictAll, h1.2, h2.2]; rfl⟩
end
theorem okShow_of {p : PyData} (h : asc p = true) (hd : p.depth ≤ 50) (hc : cst p ≤ LINE) : okShow p :=
  ⟨(asc_show p h).1, (asc_show p h).2, hd, Nat.le_trans (shown_le p h) hc⟩
theorem log_lt {i : Int} {k : Nat} (h1 : -(2 ^ k : Nat) < i) (h2 : i < (2 ^ k : Nat)) (hk : 0 < k) : i.natAbs.log2 < k := by
  by_cases h0 : i.natAbs = 0
  · rw [h0]; exact hk
  · rw [Nat.log2_lt h0]
    have : ((2 ^ k : Nat) : Int) = ((2 ^ k : Nat) : Int) := rfl
    omega
theorem lt_WF {n : Nat} (h : n < 2 ^ 2000) : n < WF := by
  unfold WF
  exact Nat.lt_of_lt_of_le h (Nat.pow_le_pow_right (by decide) (by decide))
def Bd (n : Nat) (i : Int) : Prop := i.natAbs < 2 ^ n
theorem Bd.add {n : Nat} {i j : Int} (h : Bd n i) (k : Bd n j) : Bd (n + 1) (i + j) := by
  unfold Bd at *
  have e : 2 ^ (n + 1) = 2 * 2 ^ n := by rw [Nat.pow_succ]; omega
  omega
theorem Bd.sub {n : Nat} {i j : Int} (h : Bd n i) (k : Bd n j) : Bd (n + 1) (i - j) := by
  unfold Bd at *
  have e : 2 ^ (n + 1) = 2 * 2 ^ n := by rw [Nat.pow_succ]; omega
  omega
theorem Bd.neg {n : Nat} {i : Int} (h : Bd n i) : Bd n (-i) := by unfold Bd at *; omega
theorem Bd.mul {n m : Nat} {i j : Int} (h : Bd n i) (k : Bd m j) : Bd (n + m) (i * j) := by
  unfold Bd at *
  rw [Int.natAbs_mul, Nat.pow_add]
  exact Nat.mul_lt_mul'' h k
theorem Bd.mono {n m : Nat} {i : Int} (h : Bd n i) (k : n ≤ m) : Bd m i := Nat.lt_of_lt_of_le h (Nat.pow_le_pow_right (by decide) k)
theorem Bd.of_abs {n : Nat} {i j : Int} (h : Bd n i) (k : j.natAbs ≤ i.natAbs) : Bd n j := Nat.lt_of_le_of_lt k h
theorem Bd.log {n : Nat} {i : Int} (h : Bd n i) (hn : 0 < n) : i.natAbs.log2 < n := by
  by_cases h0 : i.natAbs = 0
  · rw [h0]; exact hn
  · rw [Nat.log2_lt h0]; exact h
theorem Bd.ok {n m : Nat} {i j : Int} (h : Bd n i) (k : Bd m j) (hn : 0 < n ∧ 0 < m ∧ n + m < 1000000 := by decide) : mulOk i j := by
  refine .inl ?_
  have h1 := h.log hn.1
  have h2 := k.log hn.2.1
  show i.natAbs.log2 + j.natAbs.log2 < 1000000
  omega
theorem Bd.div {n : Nat} {j : Int} (h : Bd n j) (hp : 0 < j) (hn : 0 < n ∧ n < 9000 := by decide) : divOk j := ⟨hp, Nat.lt_trans (h.log hn.1) hn.2⟩
def gI (a b : Int) : Int := ((Nat.gcd a.natAbs b.natAbs : Nat) : Int)
theorem gI_pos {a b : Int} (h : 0 < b) : 0 < gI a b := by
  have := Nat.gcd_pos_of_pos_right a.natAbs (show 0 < b.natAbs by omega)
  unfold gI; omega
theorem gI_dvd_l (a b : Int) : gI a b ∣ a := by
  unfold gI; exact Int.ofNat_dvd_left.mpr (Nat.gcd_dvd_left _ _)
theorem gI_dvd_r (a b : Int) : gI a b ∣ b := by
  unfold gI; exact Int.ofNat_dvd_left.mpr (Nat.gcd_dvd_right _ _)
def red (a b : Int) : Int × Int := (a / gI a b, b / gI a b)
theorem red_mul {a b : Int} (h : 0 < b) : a = (red a b).1 * gI a b ∧ b = (red a b).2 * gI a b :=
  ⟨(Int.ediv_mul_cancel (gI_dvd_l a b)).symm, (Int.ediv_mul_cancel (gI_dvd_r a b)).symm⟩
theorem red_pos {a b : Int} (h : 0 < b) : 0 < (red a b).2 := by
  have h1 := (red_mul (a := a) h).2
  have h2 := gI_pos (a := a) h
  rcases Int.lt_or_le 0 (red a b).2 with z | z
  · exact z
  · have := Int.mul_le_mul_of_nonneg_right z (Int.le_of_lt h2)
    rw [Int.zero_mul] at this; omega
theorem red_cross {a b : Int} (h : 0 < b) : (red a b).1 * b = a * (red a b).2 := by
  have ⟨h1, h2⟩ := red_mul (a := a) h
  generalize gI a b = g at h1 h2
  generalize red a b = r at h1 h2
  subst h1; subst h2; ac_rfl
theorem red_cop {a b : Int} (h : 0 < b) : Nat.gcd (red a b).1.natAbs (red a b).2.natAbs = 1 := by
  have h2 := gI_pos (a := a) h
  have e1 : (red a b).1.natAbs = a.natAbs / Nat.gcd a.natAbs b.natAbs := by
    show (a / gI a b).natAbs = _; rw [Int.natAbs_ediv_of_dvd (gI_dvd_l a b)]; rfl
  have e2 : (red a b).2.natAbs = b.natAbs / Nat.gcd a.natAbs b.natAbs := by
    show (b / gI a b).natAbs = _; rw [Int.natAbs_ediv_of_dvd (gI_dvd_r a b)]; rfl
  rw [e1, e2]
  exact Nat.gcd_div_gcd_div_gcd_of_pos_right (by omega)
theorem cop_eq {a b c d : Int} (hb : 0 < b) (hd : 0 < d) (h1 : Nat.gcd a.natAbs b.natAbs = 1) (h2 : Nat.gcd c.natAbs d.natAbs = 1) (h : a * d = c * b) : a = c ∧ b = d := by
  have e1 : b.natAbs ∣ d.natAbs := by
    have : b.natAbs ∣ a.natAbs * d.natAbs := by rw [← Int.natAbs_mul, h, Int.natAbs_mul]; exact Nat.dvd_mul_left _ _
    exact Nat.Coprime.dvd_of_dvd_mul_left (show Nat.Coprime b.natAbs a.natAbs from (Nat.gcd_comm _ _).trans h1) this
  have e2 : d.natAbs ∣ b.natAbs := by
    have : d.natAbs ∣ c.natAbs * b.natAbs := by rw [← Int.natAbs_mul, ← h, Int.natAbs_mul]; exact Nat.dvd_mul_left _ _
    exact Nat.Coprime.dvd_of_dvd_mul_left (show Nat.Coprime d.natAbs c.natAbs from (Nat.gcd_comm _ _).trans h2) this
  have e3 := Nat.dvd_antisymm e1 e2
  have e4 : b = d := by omega
  subst e4
  exact ⟨Int.eq_of_mul_eq_mul_right (by omega) h, rfl⟩
theorem red_eq {a b c d : Int} (hb : 0 < b) (hd : 0 < d) (h : a * d = c * b) : red a b = red c d := by
  have p1 := red_pos (a := a) hb
  have p2 := red_pos (a := c) hd
  have x1 := red_cross (a := a) hb
  have x2 := red_cross (a := c) hd
  have key : (red a b).1 * (red c d).2 = (red c d).1 * (red a b).2 := by
    have : ((red a b).1 * (red c d).2) * (b * d) = ((red c d).1 * (red a b).2) * (b * d) := by
      calc ((red a b).1 * (red c d).2) * (b * d) = ((red a b).1 * b) * ((red c d).2 * d) := by ac_rfl
        _ = (a * (red a b).2) * ((red c d).2 * d) := by rw [x1]
        _ = (a * d) * ((red a b).2 * (red c d).2) := by ac_rfl
        _ = (c * b) * ((red a b).2 * (red c d).2) := by rw [h]
        _ = (c * (red c d).2) * ((red a b).2 * b) := by ac_rfl
        _ = ((red c d).1 * d) * ((red a b).2 * b) := by rw [x2]
        _ = ((red c d).1 * (red a b).2) * (b * d) := by ac_rfl
    exact Int.eq_of_mul_eq_mul_right (Int.ne_of_gt (Int.mul_pos hb hd)) this
  have := cop_eq p1 p2 (red_cop hb) (red_cop hd) key
  exact Prod.ext this.1 this.2
theorem red_abs {a b : Int} (h : 0 < b) : (red a b).1.natAbs ≤ a.natAbs ∧ (red a b).2.natAbs ≤ b.natAbs := by
  have h2 := gI_pos (a := a) h
  have ⟨h3, h4⟩ := red_mul (a := a) h
  have g1 : 1 ≤ (gI a b).natAbs := by omega
  constructor
  · conv => rhs; rw [h3]
    rw [Int.natAbs_mul]; exact Nat.le_mul_of_pos_right _ g1
  · conv => rhs; rw [h4]
    rw [Int.natAbs_mul]; exact Nat.le_mul_of_pos_right _ g1
theorem red_bd {a b : Int} {n m : Nat} (h : 0 < b) (ha : Bd n a) (hb : Bd m b) : Bd n (red a b).1 ∧ Bd m (red a b).2 := ⟨ha.of_abs (red_abs h).1, hb.of_abs (red_abs h).2⟩
theorem red_self {a b : Int} (h : Nat.gcd a.natAbs b.natAbs = 1) : red a b = (a, b) := by
  unfold red gI; rw [h]; simp
theorem gI_bd {a b : Int} {m : Nat} (h : 0 < b) (hb : Bd m b) : Bd m (gI a b) := by
  refine hb.of_abs ?_
  have := Nat.gcd_le_right a.natAbs (show 0 < b.natAbs by omega)
  unfold gI; omega
def fr (q : Int × Int) : D := .tup [.int q.1, .int q.2]
theorem red_times {a b c d : Int} (hb : 0 < b) (hd : 0 < d) : red ((red a b).1 * (red c d).1) ((red a b).2 * (red c d).2) = red (a * c) (b * d) := by
  have x1 := red_cross (a := a) hb
  have x2 := red_cross (a := c) hd
  have p1 := red_pos (a := a) hb
  have p2 := red_pos (a := c) hd
  refine red_eq (Int.mul_pos p1 p2) (Int.mul_pos hb hd) ?_
  generalize red a b = r at *
  generalize red c d = s at *
  grind
theorem red_plus {a b c d : Int} (hb : 0 < b) (hd : 0 < d) : red ((red a b).1 * (red c d).2 + (red c d).1 * (red a b).2) ((red a b).2 * (red c d).2) = red (a * d + c * b) (b * d) := by
  have x1 := red_cross (a := a) hb
  have x2 := red_cross (a := c) hd
  have p1 := red_pos (a := a) hb
  have p2 := red_pos (a := c) hd
  refine red_eq (Int.mul_pos p1 p2) (Int.mul_pos hb hd) ?_
  generalize red a b = r at *
  generalize red c d = s at *
  grind
theorem red_less {a b c d : Int} (hb : 0 < b) (hd : 0 < d) : red ((red a b).1 * (red c d).2 - (red c d).1 * (red a b).2) ((red a b).2 * (red c d).2) = red (a * d - c * b) (b * d) := by
  have x1 := red_cross (a := a) hb
  have x2 := red_cross (a := c) hd
  have p1 := red_pos (a := a) hb
  have p2 := red_pos (a := c) hd
  refine red_eq (Int.mul_pos p1 p2) (Int.mul_pos hb hd) ?_
  generalize red a b = r at *
  generalize red c d = s at *
  grind
theorem red_inj {a b d : Int} (hd : 0 < d) (h : red a d = red b d) : a = b := by
  have x1 := red_cross (a := a) hd
  have x2 := red_cross (a := b) hd
  have p2 := red_pos (a := b) hd
  rw [h] at x1
  have : a * (red b d).2 = b * (red b d).2 := x1.symm.trans x2
  exact Int.eq_of_mul_eq_mul_right (by omega) this
def Frq (n : Nat) (q : Int × Int) : Prop := Bd n q.1 ∧ Bd n q.2 ∧ 0 < q.2
theorem red_frq {a b : Int} {n : Nat} (h : 0 < b) (ha : Bd n a) (hb : Bd n b) : Frq n (red a b) := ⟨(red_bd h ha hb).1, (red_bd h ha hb).2, red_pos h⟩
theorem Frq.mono {n m : Nat} {q : Int × Int} (h : Frq n q) (k : n ≤ m) : Frq m q := ⟨h.1.mono k, h.2.1.mono k, h.2.2⟩
def Gv (q : Int × Int) : Prop := 0 ≤ q.1 ∧ q.1 ≤ 999 ∧ 1 ≤ q.2 ∧ q.2 ≤ 999 ∧ Nat.gcd q.1.natAbs q.2.natAbs = 1
theorem Gv.frq {q : Int × Int} (h : Gv q) : Frq 10 q := by
  obtain ⟨h1, h2, h3, h4, h5⟩ := h
  exact ⟨by show q.1.natAbs < 1024; omega, by show q.2.natAbs < 1024; omega, by omega⟩
theorem red_gv {a b : Int} (h0 : 0 ≤ a) (h1 : a ≤ 999) (h2 : 1 ≤ b) (h3 : b ≤ 999) : Gv (red a b) := by
  have hp := red_pos (a := a) (show 0 < b by omega)
  have ha := red_abs (a := a) (show 0 < b by omega)
  have hn : 0 ≤ (red a b).1 := Int.ediv_nonneg h0 (Int.le_of_lt (gI_pos (by omega)))
  exact ⟨hn, by omega, by omega, by omega, red_cop (by omega)⟩
theorem sh_fr (q : Int × Int) : SeqAt.shaped (.tuple [.int q.1, .int q.2]) = true := by
  simp [SeqAt.shaped, PyData.canLay0, PyData.canLayAll0, PyData.depth, PyData.depthAll]
theorem sh_2 (a b : Int) : SeqAt.shaped (.tuple [.int a, .int b]) = true := sh_fr (a, b)
theorem fr_mk (a b : Int) : D.tup [.int a, .int b] = fr (a, b) := rfl
instance (n : Nat) (i : Int) : Decidable (Bd n i) := by unfold Bd; infer_instance
def optC (o : Option Cell) (f : List D → Option PyData) : Option PyData := match o with
  | some (.lst ds) => f ds
  | _ => none
theorem optC_lst (ds : List D) (f : List D → Option PyData) : optC (some (.lst ds)) f = f ds := rfl
def pf (q : Int × Int) : PyData := .tuple [.int q.1, .int q.2]
theorem ty_list (n : Nat) : (tyN (.ref n) S = some "list") = cellQ S[n]? fun _ => True := by
  simp only [tyN]
  rcases S[n]? with _ | ⟨ds | kvs⟩ <;> simp [cellQ]
theorem ok_ff {x y : Int × Int} {n : Nat} (hx : Frq n x) (hy : Frq n y) (hn : 0 < n) (hn2 : n ≤ 1000) : okShow (.list [pf x, pf y]) := by
  have a1 := hx.1.log hn; have a2 := hx.2.1.log hn; have a3 := hy.1.log hn; have a4 := hy.2.1.log hn
  refine okShow_of ?_ (Nat.le_of_ble_eq_true rfl) ?_
  · simp [asc, asc.ascs, pf]; omega
  · have : LINE = 16777216 := rfl
    simp [cst, cst.csts, pf]; omega
theorem ok_bb (a b : Bool) : okShow (.list [.bool a, .bool b]) := by cases a <;> cases b <;> decide
instance (q : Int × Int) : Decidable (Gv q) := by unfold Gv; infer_instance
instance (n : Nat) (q : Int × Int) : Decidable (Frq n q) := by unfold Frq; infer_instance
theorem line0 : (0 ≤ LINE) = True := eq_true (Nat.le_of_ble_eq_true rfl)
theorem line1 : (1 ≤ LINE) = True := eq_true (Nat.le_of_ble_eq_true rfl)
theorem line2 : (2 ≤ LINE) = True := eq_true (Nat.le_of_ble_eq_true rfl)
theorem line3 : (3 ≤ LINE) = True := eq_true (Nat.le_of_ble_eq_true rfl)
theorem line4 : (4 ≤ LINE) = True := eq_true (Nat.le_of_ble_eq_true rfl)
theorem line5 : (5 ≤ LINE) = True := eq_true (Nat.le_of_ble_eq_true rfl)
theorem line6 : (6 ≤ LINE) = True := eq_true (Nat.le_of_ble_eq_true rfl)
theorem line7 : (7 ≤ LINE) = True := eq_true (Nat.le_of_ble_eq_true rfl)
theorem line8 : (8 ≤ LINE) = True := eq_true (Nat.le_of_ble_eq_true rfl)
theorem line9 : (9 ≤ LINE) = True := eq_true (Nat.le_of_ble_eq_true rfl)
theorem line10 : (10 ≤ LINE) = True := eq_true (Nat.le_of_ble_eq_true rfl)
theorem line11 : (11 ≤ LINE) = True := eq_true (Nat.le_of_ble_eq_true rfl)
theorem line12 : (12 ≤ LINE) = True := eq_true (Nat.le_of_ble_eq_true rfl)
theorem line13 : (13 ≤ LINE) = True := eq_true (Nat.le_of_ble_eq_true rfl)
theorem line14 : (14 ≤ LINE) = True := eq_true (Nat.le_of_ble_eq_true rfl)
theorem line15 : (15 ≤ LINE) = True := eq_true (Nat.le_of_ble_eq_true rfl)
theorem line16 : (16 ≤ LINE) = True := eq_true (Nat.le_of_ble_eq_true rfl)
theorem line17 : (17 ≤ LINE) = True := eq_true (Nat.le_of_ble_eq_true rfl)
theorem line18 : (18 ≤ LINE) = True := eq_true (Nat.le_of_ble_eq_true rfl)
theorem line19 : (19 ≤ LINE) = True := eq_true (Nat.le_of_ble_eq_true rfl)
theorem line20 : (20 ≤ LINE) = True := eq_true (Nat.le_of_ble_eq_true rfl)
theorem line21 : (21 ≤ LINE) = True := eq_true (Nat.le_of_ble_eq_true rfl)
theorem line22 : (22 ≤ LINE) = True := eq_true (Nat.le_of_ble_eq_true rfl)
theorem line23 : (23 ≤ LINE) = True := eq_true (Nat.le_of_ble_eq_true rfl)
theorem line24 : (24 ≤ LINE) = True := eq_true (Nat.le_of_ble_eq_true rfl)
theorem lint0 : (0 < LINE) = True := eq_true (Nat.le_of_ble_eq_true rfl)
theorem lint1 : (1 < LINE) = True := eq_true (Nat.le_of_ble_eq_true rfl)
theorem lint2 : (2 < LINE) = True := eq_true (Nat.le_of_ble_eq_true rfl)
theorem lint3 : (3 < LINE) = True := eq_true (Nat.le_of_ble_eq_true rfl)
theorem lint4 : (4 < LINE) = True := eq_true (Nat.le_of_ble_eq_true rfl)
theorem lint5 : (5 < LINE) = True := eq_true (Nat.le_of_ble_eq_true rfl)
theorem lint6 : (6 < LINE) = True := eq_true (Nat.le_of_ble_eq_true rfl)
theorem lint7 : (7 < LINE) = True := eq_true (Nat.le_of_ble_eq_true rfl)
theorem lint8 : (8 < LINE) = True := eq_true (Nat.le_of_ble_eq_true rfl)
theorem lint9 : (9 < LINE) = True := eq_true (Nat.le_of_ble_eq_true rfl)
theorem lint10 : (10 < LINE) = True := eq_true (Nat.le_of_ble_eq_true rfl)
theorem lint11 : (11 < LINE) = True := eq_true (Nat.le_of_ble_eq_true rfl)
theorem lint12 : (12 < LINE) = True := eq_true (Nat.le_of_ble_eq_true rfl)
theorem lint13 : (13 < LINE) = True := eq_true (Nat.le_of_ble_eq_true rfl)
theorem lint14 : (14 < LINE) = True := eq_true (Nat.le_of_ble_eq_true rfl)
theorem lint15 : (15 < LINE) = True := eq_true (Nat.le_of_ble_eq_true rfl)
theorem lint16 : (16 < LINE) = True := eq_true (Nat.le_of_ble_eq_true rfl)
theorem lint17 : (17 < LINE) = True := eq_true (Nat.le_of_ble_eq_true rfl)
theorem lint18 : (18 < LINE) = True := eq_true (Nat.le_of_ble_eq_true rfl)
theorem lint19 : (19 < LINE) = True := eq_true (Nat.le_of_ble_eq_true rfl)
theorem lint20 : (20 < LINE) = True := eq_true (Nat.le_of_ble_eq_true rfl)
theorem lint21 : (21 < LINE) = True := eq_true (Nat.le_of_ble_eq_true rfl)
theorem lint22 : (22 < LINE) = True := eq_true (Nat.le_of_ble_eq_true rfl)
theorem lint23 : (23 < LINE) = True := eq_true (Nat.le_of_ble_eq_true rfl)
theorem lint24 : (24 < LINE) = True := eq_true (Nat.le_of_ble_eq_true rfl)
theorem Bd.add' {n m : Nat} {i j : Int} (h : Bd n i) (k : Bd m j) : Bd (max n m + 1) (i + j) := (h.mono (Nat.le_max_left n m)).add (k.mono (Nat.le_max_right n m))
theorem Bd.sub' {n m : Nat} {i j : Int} (h : Bd n i) (k : Bd m j) : Bd (max n m + 1) (i - j) := (h.mono (Nat.le_max_left n m)).sub (k.mono (Nat.le_max_right n m))
theorem canLay_frs (qs : List (Int × Int)) : PyData.canLayAll0 (qs.map pf) = true := by
  induction qs with
  | nil => simp [PyData.canLayAll0]
  | cons q qs ih => simp [PyData.canLayAll0, ih, pf, PyData.canLay0]
theorem depth_frs (qs : List (Int × Int)) : PyData.depthAll (qs.map pf) ≤ 1 := by
  induction qs with
  | nil => simp [PyData.depthAll]
  | cons q qs ih => simp [PyData.depthAll, pf, PyData.depth] at *; omega
theorem canLay_ints (qs : List Int) : PyData.canLayAll0 (qs.map PyData.int) = true := by
  induction qs with
  | nil => simp [PyData.canLayAll0]
  | cons q qs ih => simp [PyData.canLayAll0, ih, PyData.canLay0]
theorem depth_ints (qs : List Int) : PyData.depthAll (qs.map PyData.int) = 0 := by
  induction qs with
  | nil => simp [PyData.depthAll]
  | cons q qs ih => simp [PyData.depthAll, PyData.depth] at *; omega
theorem sh_tfrs (qs : List (Int × Int)) : SeqAt.shaped (.tuple (qs.map pf)) = true := by
  have h := depth_frs qs
  have h2 : PyData.depthAll (qs.map pf) + 1 ≤ 64 := by omega
  simp [SeqAt.shaped, PyData.canLay0, canLay_frs, PyData.depth, h2]
theorem sh_lfrs (qs : List (Int × Int)) : SeqAt.shaped (.list (qs.map pf)) = true := by
  have h := depth_frs qs
  have h2 : PyData.depthAll (qs.map pf) + 1 ≤ 64 := by omega
  simp [SeqAt.shaped, PyData.canLay0, canLay_frs, PyData.depth, h2]
theorem sh_tints (qs : List Int) : SeqAt.shaped (.tuple (qs.map PyData.int)) = true := by
  simp [SeqAt.shaped, PyData.canLay0, canLay_ints, PyData.depth, depth_ints]
theorem sh_lints (qs : List Int) : SeqAt.shaped (.list (qs.map PyData.int)) = true := by
  simp [SeqAt.shaped, PyData.canLay0, canLay_ints, PyData.depth, depth_ints]
theorem sh_t0 : SeqAt.shaped (.tuple []) = true := by simp [SeqAt.shaped, PyData.canLay0, PyData.canLayAll0, PyData.depth, PyData.depthAll]
theorem sh_l0 : SeqAt.shaped (.list []) = true := by simp [SeqAt.shaped, PyData.canLay0, PyData.canLayAll0, PyData.depth, PyData.depthAll]
theorem eqv_t0 {α : Type} (f : α → PyData) (qs : List α) : PyData.eqv (.tuple (qs.map f)) (.tuple []) = qs.isEmpty := by cases qs <;> simp [PyData.eqv, PyData.eqvAll]
theorem eqv_l0 {α : Type} (f : α → PyData) (qs : List α) : PyData.eqv (.list (qs.map f)) (.list []) = qs.isEmpty := by cases qs <;> simp [PyData.eqv, PyData.eqvAll]
theorem asc_frs {qs : List (Int × Int)} {n : Nat} (h : ∀ q ∈ qs, Bd n q.1 ∧ Bd n q.2) (hn : 0 < n ∧ n ≤ 1000) : asc.ascs (qs.map pf) = true ∧ cst.csts (qs.map pf) ≤ qs.length * (2 * n + 13) := by
  induction qs with
  | nil => simp [asc.ascs, cst.csts]
  | cons q qs ih =>
    have ⟨i1, i2⟩ := ih fun x hx => h x (List.mem_cons_of_mem _ hx)
    have ⟨h1, h2⟩ := h q List.mem_cons_self
    have a1 := h1.log hn.1; have a2 := h2.log hn.1
    constructor
    · simp [asc.ascs, asc, i1, pf]; omega
    · simp only [List.map_cons, cst.csts, cst, pf, List.length_cons, Nat.add_mul]; omega
theorem asc_ints {qs : List Int} {n : Nat} (h : ∀ q ∈ qs, Bd n q) (hn : 0 < n ∧ n ≤ 1900) : asc.ascs (qs.map PyData.int) = true ∧ cst.csts (qs.map PyData.int) ≤ qs.length * (n + 4) := by
  induction qs with
  | nil => simp [asc.ascs, cst.csts]
  | cons q qs ih =>
    have ⟨i1, i2⟩ := ih fun x hx => h x (List.mem_cons_of_mem _ hx)
    have h1 := h q List.mem_cons_self
    have a1 := h1.log hn.1
    constructor
    · simp [asc.ascs, asc, i1]; omega
    · simp only [List.map_cons, cst.csts, cst, List.length_cons, Nat.add_mul]; omega
theorem red_one {a b : Int} (ha : 0 < a) (hb : 0 < b) : ((red a b).1 = 1 ↔ b % a = 0) ∧ (b % a = 0 → (red a b).2 = b / a) := by
  have hd : b % a = 0 → gI a b = a := fun h => by
    have h1 : a.natAbs ∣ b.natAbs := Int.natAbs_dvd_natAbs.mpr (Int.dvd_of_emod_eq_zero h)
    unfold gI; rw [Nat.gcd_eq_left h1]; omega
  refine ⟨⟨fun h => ?_, fun h => ?_⟩, fun h => ?_⟩
  · have ⟨h1, _⟩ := red_mul (a := a) hb
    rw [h, Int.one_mul] at h1
    have := gI_dvd_r a b
    rw [← h1] at this
    exact Int.emod_eq_zero_of_dvd this
  · unfold red; rw [hd h]; exact Int.ediv_self (by omega)
  · unfold red; rw [hd h]
def cfI (a b : Int) : List Int := if h : 0 < b then a / b :: cfI b (a % b) else []
termination_by b.toNat
decreasing_by
  have := Int.emod_lt_of_pos a h
  have := Int.emod_nonneg a (show b ≠ 0 by omega)
  omega
theorem lt_WFk {n : Nat} (k : Nat) (h : n < 2 ^ k) (hk : k ≤ 2000 := by decide) : n < WF := lt_WF (Nat.lt_of_lt_of_le h (Nat.pow_le_pow_right (by decide) hk))
theorem shB (b : Bool) : SeqAt.shaped (.bool b) = true := by simp [SeqAt.shaped, PyData.canLay0, PyData.depth]
theorem det_cop {a b c d : Int} (h : (a * d - b * c).natAbs = 1) : Nat.gcd a.natAbs b.natAbs = 1 := by
  have h1 : ((Nat.gcd a.natAbs b.natAbs : Nat) : Int) ∣ a * d - b * c := Int.dvd_sub (Int.dvd_mul_of_dvd_left (gI_dvd_l a b)) (Int.dvd_mul_of_dvd_left (gI_dvd_r a b))
  have h2 := Int.natAbs_dvd_natAbs.mpr h1
  rw [h, Int.natAbs_natCast] at h2
  exact Nat.eq_one_of_dvd_one h2
theorem ok_b3 (a b c : Bool) : okShow (.list [.bool a, .bool b, .bool c]) := by cases a <;> cases b <;> cases c <;> decide
theorem noDict_ints (ns : List Int) : PyData.hasDictAll (ns.map PyData.int) = false := by
  induction ns with
  | nil => simp [PyData.hasDictAll]
  | cons n ns ih => simp [PyData.hasDictAll, PyData.hasDict, ih]
theorem at_last {α : Type} {xs : List α} (h : xs ≠ []) : L2.atI xs (-1) = some (xs.getLast h) := by
  have hl : 0 < xs.length := List.length_pos_iff.mpr h
  have := atI_neg xs 1 (by omega) hl
  rw [show (-(1 : Nat) : Int) = -1 from rfl] at this
  rw [this, List.getLast_eq_getElem, List.getElem?_eq_getElem (by omega)]
end Fz

/-! Gx: rules that work off a run with lists as values.  All theorems x_.. are rules for simp. -/
namespace Fz
open PySem PySem.Spec PyProof.Rows L2
def RG.sat {α : Type} (r : RG α) (Q : α → Gn → Prop) (X : Str → List (Str × D) → Gn → Prop) : Prop := match r with
  | .ok a γ => Q a γ
  | .exc C fs γ => X C fs γ
  | .stuck => False
def GFl.sat (r : GFl) (N : Gn → Prop) (U : D → Gn → Prop) (B C : Gn → Prop) (X : Str → List (Str × D) → Gn → Prop) : Prop := match r with
  | .nx γ => N γ
  | .rt w γ => U w γ
  | .bk γ => B γ
  | .ct γ => C γ
  | .exc C fs γ => X C fs γ
  | .stuck => False
abbrev noX : Str → List (Str × D) → Gn → Prop := fun _ _ _ => False
theorem gsat_eq {α : Type} {r : RG α} {a : α} {γ : Gn} (h : r.sat (fun b T => b = a ∧ T = γ) noX) : r = .ok a γ := by
  cases r with
  | ok b T => obtain ⟨rfl, rfl⟩ := h; rfl
  | exc C fs T => exact h.elim
  | stuck => exact h.elim
theorem gsat_ex {α : Type} {r : RG α} {Q : α → Gn → Prop} (h : r.sat Q noX) : ∃ a γ, r = .ok a γ ∧ Q a γ := by
  cases r with
  | ok b T => exact ⟨_, _, rfl, h⟩
  | exc C fs T => exact h.elim
  | stuck => exact h.elim
theorem gsat_mono {α : Type} {r : RG α} {Q Q' : α → Gn → Prop} {X X' : Str → List (Str × D) → Gn → Prop} (h : r.sat Q X) (k : ∀ a S, Q a S → Q' a S) (kx : ∀ C fs γ, X C fs γ → X' C fs γ := by exact fun _ _ _ z => z.elim) : r.sat Q' X' := by
  cases r with
  | ok b T => exact k _ _ h
  | exc C fs T => exact kx _ _ _ h
  | stuck => exact h.elim
theorem gfsat_mono {r : GFl} {N N' : Gn → Prop} {U U' : D → Gn → Prop} {B B' C C' : Gn → Prop} {X X' : Str → List (Str × D) → Gn → Prop} (h : r.sat N U B C X)
    (n : ∀ S, N S → N' S) (t : ∀ d S, U d S → U' d S) (b : ∀ S, B S → B' S) (c : ∀ S, C S → C' S) (kx : ∀ C fs γ, X C fs γ → X' C fs γ) : r.sat N' U' B' C' X' := by
  cases r with
  | nx S => exact n _ h
  | rt e S => exact t _ _ h
  | bk S => exact b _ h
  | ct S => exact c _ h
  | exc _ _ _ => exact kx _ _ _ h
  | stuck => exact h.elim
/-- the rest of a body behind its first statement -/
theorem gcut {a b : GS} {γ : Gn} {N : Gn → Prop} {U : D → Gn → Prop} {B C : Gn → Prop} {X : Str → List (Str × D) → Gn → Prop} (M : Gn → Prop) (h : (a γ).sat M U B C X) (k : ∀ T, M T → (b T).sat N U B C X) : (qSeq a b γ).sat N U B C X := by
  unfold qSeq
  revert h
  cases a γ with
  | nx γ' => exact k γ'
  | _ => exact id
/-- the same, the state told -/
theorem gcutE {a b : GS} {γ : Gn} {N : Gn → Prop} {U : D → Gn → Prop} {B C : Gn → Prop} {X : Str → List (Str × D) → Gn → Prop} (T : Gn) (h : (a γ).sat (fun T' => T' = T) U B C X) (k : (b T).sat N U B C X) : (qSeq a b γ).sat N U B C X :=
  gcut _ h fun T' e => by subst e; exact k
def slQ (i : Nat) (γ : Gn) (o : Option Sl) (Q : D → Gn → Prop) : Prop := match o with
  | some (.vl w) => Q w γ
  | some (.ow c) => Q (cellW c) (γ.set i (.vl (cellW c)))
  | _ => False
def pkQ (o : Option Sl) (Q : D → Prop) : Prop := match o with
  | some (.vl w) => Q w
  | some (.ow c) => Q (cellW c)
  | _ => False
def owQ (o : Option Sl) (Q : List D → Prop) : Prop := match o with
  | some (.ow (.lst ws)) => Q ws
  | _ => False
section
variable {α β : Type} {γ : Gn} {Q : α → Gn → Prop} {QD : D → Gn → Prop} {QB : Bool → Gn → Prop} {QL : List D → Gn → Prop} {QO : Option Int → Gn → Prop} {QS : List Sl → Gn → Prop}
variable {X : Str → List (Str × D) → Gn → Prop} {N : Gn → Prop} {U : D → Gn → Prop} {B C : Gn → Prop}
theorem x_ok (a : α) : (RG.ok a γ).sat Q X = Q a γ := rfl
theorem x_stuck : (RG.stuck : RG α).sat Q X = False := rfl
theorem x_exc (C : Str) (fs : List (Str × D)) : (RG.exc C fs γ : RG α).sat Q X = X C fs γ := rfl
theorem x_ite {c : Prop} [Decidable c] (x y : RG α) : (if c then x else y).sat Q X = if c then x.sat Q X else y.sat Q X := by split <;> rfl
theorem x_bind (r : RG β) (k : β → Gn → RG α) : (r.bind k).sat Q X = r.sat (fun a γ => (k a γ).sat Q X) X := by cases r <;> rfl
theorem x_fl (r : RG β) (k : β → Gn → GFl) : (r.fl k).sat N U B C X = r.sat (fun a γ => (k a γ).sat N U B C X) X := by cases r <;> rfl
theorem x_fl0 (r : RG β) (k : β → Gn → GFl) : (r.fl0 k).sat N U B C X = r.sat (fun a γ => (k a γ).sat N U B C X) noX := by cases r <;> rfl
theorem x_fite {c : Prop} [Decidable c] (x y : GFl) : (if c then x else y).sat N U B C X = if c then x.sat N U B C X else y.sat N U B C X := by split <;> rfl
theorem x_nx : (GFl.nx γ).sat N U B C X = N γ := rfl
theorem x_rt (w : D) : (GFl.rt w γ).sat N U B C X = U w γ := rfl
theorem x_fst : (GFl.stuck).sat N U B C X = False := rfl
theorem x_opt (o : Option α) : (gOpt o γ).sat Q X = optQ o fun a => Q a γ := by cases o <;> rfl
/-! statements -/
theorem x_nil : (qNil γ).sat N U B C X = N γ := rfl
theorem x_seq (a b : GS) : (qSeq a b γ).sat N U B C X = (a γ).sat (fun γ1 => (b γ1).sat N U B C X) U B C X := by unfold qSeq; cases a γ <;> rfl
theorem x_expr (a : GE) : (qExpr a γ).sat N U B C X = (a γ).sat (fun _ γ1 => N γ1) X := by unfold qExpr; rw [x_fl]; rfl
theorem x_ret (a : GE) : (qRet a γ).sat N U B C X = (a γ).sat (fun w γ1 => U w γ1) X := by unfold qRet; rw [x_fl]; rfl
theorem x_retN : (qRetN γ).sat N U B C X = U .non γ := rfl
theorem x_brk : (qBrk γ).sat N U B C X = B γ := rfl
theorem x_cnt : (qCnt γ).sat N U B C X = C γ := rfl
theorem x_qstuck : (qStuck γ).sat N U B C X = False := rfl
theorem x_if (c : GT) (a b : GS) : (qIf c a b γ).sat N U B C X = (c γ).sat (fun k γ1 => if k = true then (a γ1).sat N U B C X else (b γ1).sat N U B C X) X := by unfold qIf; rw [x_fl]; congr; funext k S1; rw [x_fite]
def tgQ (o : Option Gn) (N : Gn → Prop) : Prop := match o with
  | some γ => N γ
  | none => False
theorem x_asg (a : GE) (g : GTg) : (qAsg a g γ).sat N U B C X = (a γ).sat (fun w γ1 => tgQ (g w γ1) N) X := by
  unfold qAsg; rw [x_fl]; congr; funext w γ1; cases g w γ1 <;> rfl
theorem x_tg (γ : Gn) : tgQ (some γ) N = N γ := rfl
theorem x_tgn : tgQ none N = False := rfl
def coQ (o : Option Cell) (Q : Cell → Prop) : Prop := match o with
  | some c => Q c
  | none => False
theorem x_asgO (a : GE) (i : Nat) : (qAsgO a i γ).sat N U B C X = (a γ).sat (fun w γ1 => coQ (cellO w) fun c => N (γ1.set i (.ow c))) X := by
  unfold qAsgO; rw [x_fl]; congr; funext w γ1; cases cellO w <;> rfl
theorem x_co (ws : List D) (Q : Cell → Prop) : coQ (cellO (.lsv ws)) Q = Q (.lst ws) := rfl
theorem x_par2 (i j : Nat) (a b : GE) : (qPar2 i j (gaCons a (gaCons b gaNil)) γ).sat N U B C X = (a γ).sat (fun x γ1 => (b γ1).sat (fun y γ2 => N ((γ2.set i (.vl x)).set j (.vl y))) X) X := by
  simp only [qPar2, gaCons, gaNil, x_fl, x_bind, x_ok]; rfl
theorem x_par3 (i j l : Nat) (a b c : GE) : (qPar3 i j l (gaCons a (gaCons b (gaCons c gaNil))) γ).sat N U B C X = (a γ).sat (fun x γ1 => (b γ1).sat (fun y γ2 => (c γ2).sat (fun z γ3 => N (((γ3.set i (.vl x)).set j (.vl y)).set l (.vl z))) X) X) X := by
  simp only [qPar3, gaCons, gaNil, x_fl, x_bind, x_ok]; rfl
theorem x_panil : (paNil γ).sat QS X = QS [] γ := rfl
theorem x_paE (a : GE) (r : GPa) : (paE a r γ).sat QS X = (a γ).sat (fun x γ1 => (r γ1).sat (fun xs γ2 => QS (.vl x :: xs) γ2) X) X := by unfold paE; simp only [x_bind, x_ok]
theorem x_paF (a : GE) (r : GPa) : (paF a r γ).sat QS X = (a γ).sat (fun x γ1 => (r γ1).sat (fun xs γ2 => coQ (cellO x) fun c => QS (.ow c :: xs) γ2) X) X := by
  unfold paF; simp only [x_bind]; congr; funext x γ1; congr; funext xs γ2; cases cellO x <;> rfl
def p2Q (ss : List Sl) (Q : Sl → Sl → Prop) : Prop := match ss with
  | [a, b] => Q a b
  | _ => False
def p3Q (ss : List Sl) (Q : Sl → Sl → Sl → Prop) : Prop := match ss with
  | [a, b, c] => Q a b c
  | _ => False
theorem x_parO2 (i j : Nat) (as : GPa) : (qParO2 i j as γ).sat N U B C X = (as γ).sat (fun ss γ1 => p2Q ss fun a b => N ((γ1.set i a).set j b)) X := by
  unfold qParO2; rw [x_fl]; congr; funext ss γ1; rcases ss with _ | ⟨a, _ | ⟨b, _ | ⟨c, ss⟩⟩⟩ <;> rfl
theorem x_parO3 (i j l : Nat) (as : GPa) : (qParO3 i j l as γ).sat N U B C X = (as γ).sat (fun ss γ1 => p3Q ss fun a b c => N (((γ1.set i a).set j b).set l c)) X := by
  unfold qParO3; rw [x_fl]; congr; funext ss γ1; rcases ss with _ | ⟨a, _ | ⟨b, _ | ⟨c, _ | ⟨d, ss⟩⟩⟩⟩ <;> rfl
theorem x_p2 (a b : Sl) (Q : Sl → Sl → Prop) : p2Q [a, b] Q = Q a b := rfl
theorem x_p3 (a b c : Sl) (Q : Sl → Sl → Sl → Prop) : p3Q [a, b, c] Q = Q a b c := rfl
def setQ (o : Option Sl) (k : D) (Q : List D → Nat → Prop) : Prop := match o, k with
  | some (.ow (.lst ws)), .int k => optQ (ixN ws.length k) fun j => Q ws j
  | _, _ => False
theorem x_set (i : Nat) (a b : GE) : (qSet i a b γ).sat N U B C X = (a γ).sat (fun w γ1 => (b γ1).sat (fun k γ2 => setQ γ2[i]? k fun ws j => N (γ2.set i (.ow (.lst (ws.set j w))))) noX) X := by
  unfold qSet; simp only [x_fl, x_fl0]
  congr; funext w γ1; congr; funext k γ2
  rcases γ2[i]? with _ | ⟨_ | u | ⟨ws | kvs⟩⟩ <;> try rfl
  cases k <;> try rfl
  rename_i k
  simp only [setQ]
  cases ixN ws.length k <;> rfl
theorem x_setQ (ws : List D) (k : Int) (Q : List D → Nat → Prop) : setQ (some (.ow (.lst ws))) (.int k) Q = optQ (ixN ws.length k) fun j => Q ws j := rfl
theorem x_wp (is : List Nat) (a : GS) : (qWp is a γ).sat N U B C X = (a γ).sat (fun γ1 => N (wipeG γ1 is)) U B (fun γ1 => C (wipeG γ1 is)) X := by unfold qWp; cases a γ <;> rfl
theorem x_pre (is : List Nat) (a : GS) : (qPre is a γ).sat N U B C X = (a (wipeG γ is)).sat N U B C X := rfl
theorem x_wipe0 : wipeG γ [] = γ := rfl
theorem x_wipeS (i : Nat) (is : List Nat) : wipeG γ (i :: is) = (wipeG γ is).set i .no := rfl
/-! targets -/
theorem x_tnm (i : Nat) (w : D) : tNm i w γ = some (γ.set i (.vl w)) := rfl
theorem x_tsnil : tsNil [] γ = some γ := rfl
theorem x_tscons (g : GTg) (r : GTgs) (w : D) (ws : List D) : tgQ (tsCons g r (w :: ws) γ) N = tgQ (g w γ) fun γ1 => tgQ (r ws γ1) N := by unfold tsCons; simp only; cases g w γ <;> rfl
theorem x_ttp (n : Nat) (g : GTgs) (ws : List D) : tgQ (tTp n g (.tup ws) γ) N = (ws.length = n ∧ tgQ (g ws γ) N) := by
  unfold tTp; simp only; split <;> simp_all [tgQ]
theorem x_ttl (n : Nat) (g : GTgs) (ws : List D) : tgQ (tTl n g (.lsv ws) γ) N = (ws.length = n ∧ tgQ (g ws γ) N) := by
  unfold tTl itW; simp only; split <;> simp_all [tgQ]
theorem x_ttlT (n : Nat) (g : GTgs) (ws : List D) : tgQ (tTl n g (.tup ws) γ) N = (ws.length = n ∧ tgQ (g ws γ) N) := by
  unfold tTl itW; simp only; split <;> simp_all [tgQ]
theorem x_tsb (i : Nat) (k : Int) (w : D) : tgQ (tSb i k w γ) N = setQ γ[i]? (.int k) fun ws j => N (γ.set i (.ow (.lst (ws.set j w)))) := by
  unfold tSb
  rcases γ[i]? with _ | ⟨_ | u | ⟨ws | kvs⟩⟩ <;> try rfl
  simp only [setQ]
  cases ixN ws.length k <;> rfl
/-! expressions -/
theorem x_var (i : Nat) : (gVar i γ).sat QD X = slQ i γ γ[i]? QD := by unfold gVar slQ; rcases γ[i]? with _ | ⟨_ | w | c⟩ <;> rfl
theorem x_slV (i : Nat) (w : D) : slQ i γ (some (.vl w)) QD = QD w γ := rfl
theorem x_slO (i : Nat) (ws : List D) : slQ i γ (some (.ow (.lst ws))) QD = QD (.lsv ws) (γ.set i (.vl (.lsv ws))) := rfl
theorem x_pk (i : Nat) : (gPk i γ).sat QD X = pkQ γ[i]? fun w => QD w γ := by unfold gPk pkQ; rcases γ[i]? with _ | ⟨_ | w | c⟩ <;> rfl
theorem x_pkV (w : D) (Q : D → Prop) : pkQ (some (.vl w)) Q = Q w := rfl
theorem x_pkO (ws : List D) (Q : D → Prop) : pkQ (some (.ow (.lst ws))) Q = Q (.lsv ws) := rfl
theorem x_c (d : D) : (gC d γ).sat QD X = QD d γ := rfl
theorem x_1 (f : D → Option D) (a : GE) : (g1 f a γ).sat QD X = (a γ).sat (fun x γ1 => optQ (f x) fun w => QD w γ1) X := by unfold g1; simp only [x_bind, x_opt]
theorem x_2 (f : D → D → Option D) (a b : GE) : (g2 f a b γ).sat QD X = (a γ).sat (fun x γ1 => (b γ1).sat (fun y γ2 => optQ (f x y) fun w => QD w γ2) X) X := by unfold g2; simp only [x_bind, x_opt]
theorem x_2k (f : D → D → Option D) (i : Nat) (b : GE) : (g2k f i b γ).sat QD X = pkQ γ[i]? fun _ => (b γ).sat (fun y γ1 => pkQ γ1[i]? fun x => optQ (f x y) fun w => QD w γ1) X := by unfold g2k; simp only [x_bind, x_opt, x_pk]
theorem x_n (f : List D → Option D) (as : GA) : (gN f as γ).sat QD X = (as γ).sat (fun xs γ1 => optQ (f xs) fun w => QD w γ1) X := by unfold gN; simp only [x_bind, x_opt]
theorem x_n1 (f : List D → Option D) (a : GE) : (gN1 f a γ).sat QD X = (a γ).sat (fun x γ1 => optQ (f [x]) fun w => QD w γ1) X := by unfold gN1; simp only [x_bind, x_opt]
theorem x_eif (c : GT) (a b : GE) : (gIf c a b γ).sat QD X = (c γ).sat (fun k γ1 => if k = true then (a γ1).sat QD X else (b γ1).sat QD X) X := by unfold gIf; rw [x_bind]; congr; funext k S1; rw [x_ite]
theorem x_and (a b : GE) : (gAnd a b γ).sat QD X = (a γ).sat (fun d γ1 => optQ (truD d []) fun k => if k = true then (b γ1).sat QD X else QD d γ1) X := by
  unfold gAnd; simp only [x_bind, x_opt]; congr; funext d γ1; congr; funext k; rw [x_ite]; rfl
theorem x_or (a b : GE) : (gOr a b γ).sat QD X = (a γ).sat (fun d γ1 => optQ (truD d []) fun k => if k = true then QD d γ1 else (b γ1).sat QD X) X := by
  unfold gOr; simp only [x_bind, x_opt]; congr; funext d γ1; congr; funext k; rw [x_ite]; rfl
theorem x_not (a : GE) : (gNot a γ).sat QD X = (a γ).sat (fun d γ1 => optQ (truD d []) fun k => QD (.bl (!k)) γ1) X := by unfold gNot; simp only [x_bind, x_opt, x_ok]
theorem x_ch (g g' : D → D → Option D) (a b c : GE) : (gCh g g' a b c γ).sat QD X = (a γ).sat (fun x γ1 => (b γ1).sat (fun y γ2 => optQ (g x y) fun z => optQ (blO z) fun k => if k = true then (c γ2).sat (fun u γ5 => optQ (g' y u) fun w => QD w γ5) X else QD (.bl false) γ2) X) X := by
  unfold gCh; simp only [x_bind, x_opt]; congr; funext x γ1; congr; funext y γ2; congr; funext z; congr; funext k
  cases k <;> simp [x_bind, x_opt, x_ok]
theorem x_sl (a : GE) (l u : GO) : (gSl a l u γ).sat QD X = (a γ).sat (fun d γ1 => (l γ1).sat (fun i γ2 => (u γ2).sat (fun j γ3 => optQ (wSl d i j) fun w => QD w γ3) X) X) X := by unfold gSl; simp only [x_bind, x_opt]
theorem x_slL (a : GE) (l u : GO) : (gSlL a l u γ).sat QD X = (a γ).sat (fun d γ1 => (l γ1).sat (fun i γ2 => (u γ2).sat (fun j γ3 => optQ (wSlL d i j) fun w => QD w γ3) X) X) X := by unfold gSlL; simp only [x_bind, x_opt]
theorem x_slk (i : Nat) (l u : GO) : (gSlk i l u γ).sat QD X = pkQ γ[i]? fun _ => (l γ).sat (fun a γ2 => (u γ2).sat (fun j γ3 => pkQ γ3[i]? fun x => optQ (wSl x a j) fun w => QD w γ3) X) X := by unfold gSlk; simp only [x_bind, x_opt, x_pk]
theorem x_onone : (goNone γ).sat QO X = QO none γ := rfl
theorem x_osome (a : GE) : (goSome a γ).sat QO X = (a γ).sat (fun d γ1 => optQ (inO d) fun i => QO i γ1) X := by unfold goSome; simp only [x_bind, x_opt]
theorem x_inO (i : Int) : inO (.int i) = some (some i) := rfl
theorem x_m (t : String) (f : D → List D → Option D) (a : GE) (as : GA) : (gM t f a as γ).sat QD X = (a γ).sat (fun x γ1 => tyN x [] = some t ∧ (as γ1).sat (fun xs γ2 => optQ (f x xs) fun w => QD w γ2) X) X := by
  unfold gM; simp only [x_bind]; congr; funext x γ1; rw [x_ite, x_stuck, if_false']; simp only [x_bind, x_opt]
theorem x_app (i : Nat) (a : GE) : (gApp i a γ).sat QD X = owQ γ[i]? fun _ => (a γ).sat (fun w γ1 => owQ γ1[i]? fun ws => ws.length < LINE ∧ QD .non (γ1.set i (.ow (.lst (ws ++ [w]))))) X := by
  unfold gApp owQ
  rcases γ[i]? with _ | ⟨_ | u | ⟨ws | kvs⟩⟩ <;> try rfl
  simp only [x_bind]; congr; funext w γ1
  rcases γ1[i]? with _ | ⟨_ | u | ⟨ws | kvs⟩⟩ <;> try rfl
  simp only [x_ite, x_stuck, if_false', x_ok]
theorem x_ow (ws : List D) (Q : List D → Prop) : owQ (some (.ow (.lst ws))) Q = Q ws := rfl
/-! arguments -/
theorem x_anil : (gaNil γ).sat QL X = QL [] γ := rfl
theorem x_acons (a : GE) (r : GA) : (gaCons a r γ).sat QL X = (a γ).sat (fun x γ1 => (r γ1).sat (fun xs γ2 => QL (x :: xs) γ2) X) X := by unfold gaCons; simp only [x_bind, x_ok]
theorem x_astar (a : GE) (r : GA) : (gaStar a r γ).sat QL X = (a γ).sat (fun x γ1 => optQ (itW x) fun ds => (r γ1).sat (fun xs γ2 => QL (ds ++ xs) γ2) X) X := by
  unfold gaStar; simp only [x_bind]; congr; funext x γ1; cases itW x <;> simp only [x_bind, x_ok, x_stuck, optQ]
theorem x_aapp (n m : Nat) (a b : GA) : (gaApp n m a b γ).sat QL X = (a γ).sat (fun xs γ1 => (b γ1).sat (fun ys γ2 => (xs.length = n ∧ ys.length = m) ∧ QL (xs ++ ys) γ2) X) X := by
  unfold gaApp; simp only [x_bind, x_ite, x_ok, x_stuck, if_false']
/-! tests -/
theorem x_tru (a : GE) : (gTru a γ).sat QB X = (a γ).sat (fun d γ1 => optQ (truD d []) fun k => QB k γ1) X := by unfold gTru; simp only [x_bind, x_opt]
theorem x_tbl (a : GE) : (gBl a γ).sat QB X = (a γ).sat (fun d γ1 => optQ (blO d) fun k => QB k γ1) X := by unfold gBl; simp only [x_bind, x_opt]
theorem x_tnot (f : GT) : (gTNot f γ).sat QB X = (f γ).sat (fun b γ1 => QB (!b) γ1) X := by unfold gTNot; rw [x_bind]; rfl
theorem x_tand (f g : GT) : (gTAnd f g γ).sat QB X = (f γ).sat (fun b γ1 => if b = true then (g γ1).sat QB X else QB false γ1) X := by unfold gTAnd; rw [x_bind]; congr; funext b γ1; rw [x_ite]; rfl
theorem x_tor (f g : GT) : (gTOr f g γ).sat QB X = (f γ).sat (fun b γ1 => if b = true then QB true γ1 else (g γ1).sat QB X) X := by unfold gTOr; rw [x_bind]; congr; funext b γ1; rw [x_ite]; rfl
theorem x_tyes : (gTYes γ).sat QB X = QB true γ := rfl
theorem x_blO (b : Bool) : blO (.bl b) = some b := rfl
theorem x_ubl (b : Bool) : truD (.bl b) [] = some b := rfl
theorem x_uint (i : Int) : truD (.int i) [] = some (i != 0) := rfl
theorem x_unon : truD .non [] = some false := rfl
theorem x_utup (ds : List D) : truD (.tup ds) [] = some (!ds.isEmpty) := rfl
theorem x_ulsv (ds : List D) : truD (.lsv ds) [] = some (!ds.isEmpty) := rfl
/-! calls -/
theorem call_aux (r : RG D) (γ1 : Gn) : (match r with | .ok w _ => .ok w γ1 | .exc C fs _ => .exc C fs γ1 | .stuck => .stuck : RG D).sat QD X = r.sat (fun w _ => QD w γ1) (fun C fs _ => X C fs γ1) := by cases r <;> rfl
theorem x_call (n m : Nat) (pm : List Nat) (dds : List D) (np : Nat) (G : GFn) (as : GA) : (gCall n m pm dds np G as γ).sat QD X = (as γ).sat (fun xs γ1 => (xs.length = n + m ∧ (permL pm (xs ++ dds)).length = np) ∧ (G ((permL pm (xs ++ dds)).map .vl)).sat (fun w _ => QD w γ1) (fun C fs _ => X C fs γ1)) X := by
  unfold gCall; simp only [x_bind, x_ite, x_stuck, if_false']
  have e : ∀ (xs : List D) (γ1 : Gn), _ = _ := fun xs γ1 => call_aux (QD := QD) (X := X) (G ((permL pm (xs ++ dds)).map .vl)) γ1
  refine congrArg (fun f => (as γ).sat f X) ?_
  funext xs γ1
  exact congrArg (fun p => (xs.length = n + m ∧ (permL pm (xs ++ dds)).length = np) ∧ p) (e xs γ1)
def ocQ (o : Option Sl) (Q : Cell → Prop) : Prop := match o with
  | some (.ow c) => Q c
  | _ => False
theorem x_oc (c : Cell) (Q : Cell → Prop) : ocQ (some (.ow c)) Q = Q c := rfl
theorem io_aux (r : RG D) (γ1 : Gn) (i : Nat) : (match r with | .ok w o => .ok w (putSl γ1 i o[0]?) | .exc C fs o => .exc C fs (putSl γ1 i o[0]?) | .stuck => .stuck : RG D).sat QD X = r.sat (fun w o => QD w (putSl γ1 i o[0]?)) (fun C fs o => X C fs (putSl γ1 i o[0]?)) := by cases r <;> rfl
theorem x_io (i n : Nat) (pm : List Nat) (dds : List D) (np : Nat) (G : GFn) (as : GA) : (gCallIo i n pm dds np G as γ).sat QD X = pkQ γ[i]? fun _ => (as γ).sat (fun xs γ1 => ocQ γ1[i]? fun c => (xs.length = n ∧ (permL pm (xs ++ dds)).length + 1 = np) ∧ (G (.ow c :: (permL pm (xs ++ dds)).map .vl)).sat (fun w o => QD w (putSl γ1 i o[0]?)) (fun C fs o => X C fs (putSl γ1 i o[0]?))) X := by
  unfold gCallIo; simp only [x_bind, x_pk]; congr; funext _; congr; funext xs γ1
  rcases γ1[i]? with _ | ⟨_ | u | c⟩ <;> try rfl
  simp only [ocQ, x_ite, x_stuck, if_false']
  exact congrArg (fun p => (xs.length = n ∧ (permL pm (xs ++ dds)).length + 1 = np) ∧ p) (io_aux _ γ1 i)
theorem x_put (i : Nat) (s : Sl) : putSl γ i (some s) = γ.set i s := rfl
theorem x_perm0 (l : List D) : permL [] l = [] := rfl
theorem x_def (fl : List Bool) (np n : Nat) (b : GS) (as : List Sl) (h : as.length = np) : (defG fl false np n b as).sat QD X = (b (as ++ List.replicate (n - np) .no)).sat (fun γ => QD .non (outs fl γ)) (fun w γ => QD w (outs fl γ)) (fun _ => False) (fun _ => False) (fun C fs γ => X C fs (outs fl γ)) := by
  unfold defG; rw [if_pos h]
  cases b (as ++ List.replicate (n - np) .no) <;> rfl
theorem x_defF (fl : List Bool) (np n : Nat) (b : GS) (as : List Sl) (h : as.length = np) : (defG fl true np n b as).sat QD X = (b (as ++ List.replicate (n - np) .no)).sat (fun γ => False) (fun w γ => QD w (outs fl γ)) (fun _ => False) (fun _ => False) (fun C fs γ => X C fs (outs fl γ)) := by
  unfold defG; rw [if_pos h]
  cases b (as ++ List.replicate (n - np) .no) <;> rfl
theorem x_outs0 : outs [] γ = [] := by cases γ <;> rfl
theorem x_outsT (fl : List Bool) (s : Sl) : outs (true :: fl) (s :: γ) = s :: outs fl γ := rfl
theorem x_outsF (fl : List Bool) (s : Sl) : outs (false :: fl) (s :: γ) = .no :: outs fl γ := rfl
/-! loops -/
theorem x_for (vs : List Nat) (f : GI) (g : GTg) (b : GS) : (qFor vs f g b γ).sat N U B C X = (f γ).sat (fun ws γ1 => (qForN g b ws (wipeG γ1 vs)).sat N U B C X) X := by unfold qFor; rw [x_fl]
theorem x_iof (a : GE) : (giOf a γ).sat QL X = (a γ).sat (fun w γ1 => optQ (srcW w) fun ws => QL ws γ1) X := by unfold giOf; simp only [x_bind, x_opt]
theorem x_ien (a : GE) : (giEn a γ).sat QL X = (a γ).sat (fun w γ1 => optQ (wEn w) fun ws => QL ws γ1) X := by unfold giEn; simp only [x_bind, x_opt]
theorem x_iN (f : List D → Option (List D)) (as : GA) : (giN f as γ).sat QL X = (as γ).sat (fun xs γ1 => optQ (f xs) fun ws => QL ws γ1) X := by unfold giN; simp only [x_bind, x_opt]
theorem x_srcT (ds : List D) : srcW (.tup ds) = some ds := rfl
theorem x_srcF (ds : List D) : srcW (.frl ds) = some ds := rfl
theorem x_srcL (ds : List D) : srcW (.lsv ds) = some ds := rfl
theorem x_srcS (x : List Nat) : srcW (.str x) = some (x.map fun c => .str [c]) := rfl
theorem x_zip (xs ys : List D) : wZip [.lsv xs, .lsv ys] = some (zipW xs ys) := rfl
theorem x_zipT (xs ys : List D) : wZip [.tup xs, .tup ys] = some (zipW xs ys) := rfl
theorem x_en (ds : List D) : wEn (.lsv ds) = some (enumW ds) := rfl
theorem x_lc (f : GI) (g : GTg) (t : GT) (e : GE) (vs : List Nat) : (gLc f g t e vs γ).sat QD X = (f γ).sat (fun ws γ1 => (gLcN g t e vs ws [] (wipeG γ1 vs)).sat (fun l γ2 => QD (.lsv l) (restG (wipeG γ2 vs) γ1 vs)) noX) X := by
  unfold gLc; simp only [x_bind]; congr; funext ws γ1; cases gLcN g t e vs ws [] (wipeG γ1 vs) <;> rfl
theorem x_rest0 (γ0 : Gn) : restG γ γ0 [] = γ := rfl
def rsQ (γ : Gn) (i : Nat) : Option Sl → Gn
  | some (.vl w) => γ.set i (.vl w)
  | _ => γ
theorem x_restS (γ0 : Gn) (i : Nat) (is : List Nat) : restG γ γ0 (i :: is) = rsQ (restG γ γ0 is) i γ0[i]? := by
  conv => lhs; unfold restG
  rcases γ0[i]? with _ | ⟨_ | u | c⟩ <;> rfl
theorem x_rsV (i : Nat) (w : D) : rsQ γ i (some (.vl w)) = γ.set i (.vl w) := rfl
theorem x_rsN (i : Nat) : rsQ γ i (some .no) = γ := rfl
theorem x_rsO (i : Nat) (c : Cell) : rsQ γ i (some (.ow c)) = γ := rfl
end
/-! ### values -/
section
variable {Q : D → Prop}
theorem o_ite {α : Type} {c : Prop} [Decidable c] (o : Option α) (Q : α → Prop) : optQ (if c then o else none) Q = (c ∧ optQ o Q) := by
  by_cases h : c
  · rw [if_pos h]; exact (propext ⟨fun z => ⟨h, z⟩, fun z => z.2⟩)
  · rw [if_neg h]; exact (propext ⟨fun z => z.elim, fun z => absurd z.1 h⟩)
theorem x_some {α : Type} (a : α) (Q : α → Prop) : optQ (some a) Q = Q a := rfl
theorem x_map {α β : Type} (f : α → β) (o : Option α) (Q : β → Prop) : optQ (o.map f) Q = optQ o fun a => Q (f a) := by cases o <;> rfl
theorem x_obind {α β : Type} (f : α → Option β) (o : Option α) (Q : β → Prop) : optQ (o.bind f) Q = optQ o fun a => optQ (f a) Q := by cases o <;> rfl
theorem x_mul (i j : Int) : optQ (wMulI (.int i) (.int j)) Q = (mulOk i j ∧ Q (.int (i * j))) := by unfold wMulI wI2; simp only [decide_eq_true_eq, o_ite, x_some]
theorem x_sub (i j : Int) : wSub (.int i) (.int j) = some (.int (i - j)) := rfl
theorem x_div (i j : Int) : optQ (wDiv (.int i) (.int j)) Q = (divOk j ∧ Q (.int (i / j))) := by unfold wDiv wI2; simp only [decide_eq_true_eq, o_ite, x_some]
theorem x_mod (i j : Int) : optQ (wMod (.int i) (.int j)) Q = (0 < j ∧ Q (.int (i % j))) := by unfold wMod wI2; simp only [decide_eq_true_eq, o_ite, x_some]
theorem x_pow (i j : Int) : optQ (wPow (.int i) (.int j)) Q = (CPow i j ∧ Q (.int (i ^ j.toNat))) := by unfold wPow wI2; simp only [decide_eq_true_eq, o_ite, x_some]
theorem x_shl (i j : Int) : optQ (wShl (.int i) (.int j)) Q = (CPow i j ∧ Q (.int (i * 2 ^ j.toNat))) := by unfold wShl wI2; simp only [decide_eq_true_eq, o_ite, x_some]
theorem x_shr (i j : Int) : optQ (wShr (.int i) (.int j)) Q = (0 ≤ j ∧ Q (.int (i / 2 ^ j.toNat))) := by unfold wShr wI2; simp only [decide_eq_true_eq, o_ite, x_some]
theorem x_andI (i j : Int) : wAnd (.int i) (.int j) = some (.int (Builtin.bitAnd i j)) := rfl
theorem x_cmp (f : Int → Int → Bool) (i j : Int) : wCmp f (.int i) (.int j) = some (.bl (f i j)) := rfl
theorem x_neg (i : Int) : wNeg (.int i) = some (.int (-i)) := rfl
theorem x_addI (i j : Int) : wAdd (.int i) (.int j) = some (.int (i + j)) := rfl
theorem x_addS (x y : List Nat) : optQ (wAdd (.str x) (.str y)) Q = (x.length + y.length ≤ LINE ∧ Q (.str (x ++ y))) := by unfold wAdd; simp only [o_ite, x_some]
theorem x_addT (x y : List D) : optQ (wAdd (.tup x) (.tup y)) Q = (x.length + y.length ≤ LINE ∧ Q (.tup (x ++ y))) := by unfold wAdd; simp only [o_ite, x_some]
theorem x_addL (x y : List D) : optQ (wAdd (.lsv x) (.lsv y)) Q = (x.length + y.length ≤ LINE ∧ Q (.lsv (x ++ y))) := by unfold wAdd; simp only [o_ite, x_some]
theorem x_addLL (x y : List D) : optQ (wAddL (.lsv x) (.lsv y)) Q = (x.length + y.length ≤ LINE ∧ Q (.lsv (x ++ y))) := by unfold wAddL; simp only [o_ite, x_some]
theorem x_mulAI (i j : Int) : optQ (wMulA (.int i) (.int j)) Q = (mulOk i j ∧ Q (.int (i * j))) := by unfold wMulA; simp only [o_ite, x_some]
theorem x_mulAC (c : Nat) (k : Int) : optQ (wMulA (.str [c]) (.int k)) Q = ((-1000000 < k ∧ k < 1000000) ∧ Q (.str (List.replicate k.toNat c))) := by unfold wMulA; simp only [o_ite, x_some]
theorem x_mulAL (ds : List D) (k : Int) : optQ (wMulA (.lsv ds) (.int k)) Q = ((-(2 ^ 62) < k ∧ k < 2 ^ 62 ∧ ds.length * k.toNat ≤ LINE) ∧ Q (.lsv (List.replicate k.toNat ds).flatten)) := by unfold wMulA; simp only [o_ite, x_some]
theorem x_mulLL (ds : List D) (k : Int) : optQ (wMulL (.lsv ds) (.int k)) Q = ((-(2 ^ 62) < k ∧ k < 2 ^ 62 ∧ ds.length * k.toNat ≤ LINE) ∧ Q (.lsv (List.replicate k.toNat ds).flatten)) := by unfold wMulL; simp only [o_ite, x_some]
theorem x_tup (ds : List D) : optQ (wTup ds) Q = (ds.length ≤ LINE ∧ Q (.tup ds)) := by unfold wTup; simp only [o_ite, x_some]
theorem x_lst (ds : List D) : optQ (wLst ds) Q = (ds.length ≤ LINE ∧ Q (.lsv ds)) := by unfold wLst; simp only [o_ite, x_some]
theorem x_abs (i : Int) : wAbs [.int i] = some (.int (if i < 0 then -i else i)) := rfl
theorem x_max2 (i j : Int) : wMax2 [.int i, .int j] = some (.int (if j > i then j else i)) := rfl
theorem x_min2 (i j : Int) : wMin2 [.int i, .int j] = some (.int (if j < i then j else i)) := rfl
theorem x_gcd (i j : Int) : wGcd [.int i, .int j] = some (.int (gI i j)) := rfl
theorem x_intI (i : Int) : wInt [.int i] = some (.int i) := rfl
theorem x_intB (k : Bool) : wInt [.bl k] = some (.int (if k then 1 else 0)) := rfl
theorem x_dm (i j : Int) : optQ (wDivmod [.int i, .int j]) Q = (CDiv i j ∧ Q (.tup [.int (i / j), .int (i % j)])) := by unfold wDivmod wII; simp only [o_ite, x_some]
theorem x_lenS (x : List Nat) : optQ (wLen [.str x]) Q = (x.length ≤ LINE ∧ Q (.int x.length)) := by unfold wLen; simp only [o_ite, x_some]
theorem x_lenT (x : List D) : wLen [.tup x] = some (.int x.length) := rfl
theorem x_lenF (x : List D) : wLen [.frl x] = some (.int x.length) := rfl
theorem x_lenL (x : List D) : wLen [.lsv x] = some (.int x.length) := rfl
theorem x_ixT (ds : List D) (i : Int) : wIx (.tup ds) (.int i) = atI ds i := rfl
theorem x_ixF (ds : List D) (i : Int) : wIx (.frl ds) (.int i) = atI ds i := rfl
theorem x_ixL (ds : List D) (i : Int) : wIx (.lsv ds) (.int i) = atI ds i := rfl
theorem x_ixS (x : List Nat) (i : Int) : optQ (wIx (.str x) (.int i)) Q = (x.length ≤ LINE ∧ optQ (atI x i) fun c => Q (.str [c])) := by unfold wIx; simp only [o_ite, x_map]
theorem x_slT (ds : List D) (l u : Option Int) : wSl (.tup ds) l u = some (.tup (cutD ds l u)) := rfl
theorem x_slF (ds : List D) (l u : Option Int) : wSl (.frl ds) l u = some (.lsv (cutD ds l u)) := rfl
theorem x_slLs (ds : List D) (l u : Option Int) : wSl (.lsv ds) l u = some (.lsv (cutD ds l u)) := rfl
theorem x_slS (x : List Nat) (l u : Option Int) : optQ (wSl (.str x) l u) Q = (x.length ≤ LINE ∧ Q (.str (cutD x l u))) := by unfold wSl; simp only [o_ite, x_some]
theorem x_slLF (ds : List D) (l u : Option Int) : wSlL (.frl ds) l u = some (.lsv (cutD ds l u)) := rfl
theorem x_slLL (ds : List D) (l u : Option Int) : wSlL (.lsv ds) l u = some (.lsv (cutD ds l u)) := rfl
theorem x_revS (x : List Nat) : optQ (wRev (.str x)) Q = (x.length ≤ LINE ∧ Q (.str x.reverse)) := by unfold wRev; simp only [o_ite, x_some]
theorem x_revL (ds : List D) : wRev (.lsv ds) = some (.lsv ds.reverse) := rfl
theorem x_tupleT (ds : List D) : wTuple [.tup ds] = some (.tup ds) := rfl
theorem x_tupleF (ds : List D) : wTuple [.frl ds] = some (.tup ds) := rfl
theorem x_tupleL (ds : List D) : wTuple [.lsv ds] = some (.tup ds) := rfl
theorem x_listT (ds : List D) : wList [.tup ds] = some (.lsv ds) := rfl
theorem x_listF (ds : List D) : wList [.frl ds] = some (.lsv ds) := rfl
theorem x_listL (ds : List D) : wList [.lsv ds] = some (.lsv ds) := rfl
theorem x_sumL (ds : List D) : wSum [.lsv ds] = (intsOf ds).map fun ns => .int ns.sum := rfl
theorem x_sumT (ds : List D) : wSum [.tup ds] = (intsOf ds).map fun ns => .int ns.sum := rfl
theorem x_sumF (ds : List D) : wSum [.frl ds] = (intsOf ds).map fun ns => .int ns.sum := rfl
theorem x_all (ds : List D) : wAll [.lsv ds] = (blsOf ds).map fun bs => .bl (bs.all id) := rfl
theorem x_any (ds : List D) : wAny [.lsv ds] = (blsOf ds).map fun bs => .bl (bs.any id) := rfl
theorem x_r1 (j : Int) {Q : List D → Prop} : optQ (wRng1 [.int j]) Q = (B62 j = true ∧ Q (intsD 0 1 j.toNat)) := by unfold wRng1; simp only [o_ite, x_some]
theorem x_r2 (i j : Int) {Q : List D → Prop} : optQ (wRng2 [.int i, .int j]) Q = ((B62 i = true ∧ B62 j = true) ∧ Q (intsD i 1 (j - i).toNat)) := by unfold wRng2; simp only [o_ite, x_some]
theorem x_r3 (i j c : Int) {Q : List D → Prop} : optQ (wRng3 [.int i, .int j, .int c]) Q = ((c ≠ 0 ∧ c.natAbs < 1073741824 ∧ Builtin.Range.small i j c = true ∧ 0 ≤ Builtin.Range.rangeSize i j c) ∧ Q (intsD i c (Builtin.Range.rangeSize i j c).toNat)) := by unfold wRng3; simp only [o_ite, x_some]
theorem x_lr (i j : Int) : optQ (wLR (.int i) (.int j)) Q = (RgOk i j ∧ Q (.lsv (intsD i 1 (j - i).toNat))) := by unfold wLR; simp only [o_ite, x_some]
theorem x_join (a : List Nat) (ds : List D) : optQ (wJoin (.str a) [.lsv ds]) Q = optQ (strsOf ds) fun ys => (ys.map (·.length)).sum + ys.length * a.length ≤ LINE ∧ Q (.str (TL.joinL a ys)) := by
  unfold wJoin; simp only [lsW, Option.bind_some]; cases strsOf ds
  · rfl
  · simp only [o_ite, x_some]
theorem x_tyS (x : List Nat) : (tyN (.str x) [] = some "str") = True := eq_true rfl
theorem x_tyL (x : List D) : (tyN (.lsv x) [] = some "list") = True := eq_true rfl
/-! equality, what is shown -/
def eqQ (f : Bool → Bool) (o u : Option PyData) (Q : Bool → Prop) : Prop := match o, u with
  | some p, some q => (SeqAt.shaped p = true ∧ SeqAt.shaped q = true) ∧ Q (f (PyData.eqv p q))
  | _, _ => False
theorem x_eqQ (f : Bool → Bool) (p q : PyData) (Q : Bool → Prop) : eqQ f (some p) (some q) Q = ((SeqAt.shaped p = true ∧ SeqAt.shaped q = true) ∧ Q (f (PyData.eqv p q))) := rfl
theorem eqW (f : Bool → Bool) (w u : D) (h : ∀ x y, w = .str x → u = .str y → False) : optQ (wEqA f w u) Q = eqQ f (toPy [] 40 w) (toPy [] 40 u) fun b => Q (.bl b) := by
  unfold wEqA eqQ
  split
  · exact (h _ _ rfl rfl).elim
  · cases toPy [] 40 w <;> cases toPy [] 40 u <;> try rfl
    simp only [o_ite, x_some]
theorem x_eqS (x y : List Nat) : wEq (.str x) (.str y) = some (.bl (x == y)) := rfl
theorem x_neS (x y : List Nat) : wNe (.str x) (.str y) = some (.bl (!(x == y))) := rfl
theorem x_eqI (i j : Int) : optQ (wEq (.int i) (.int j)) Q = Q (.bl (i == j)) := by
  unfold wEq; rw [eqW _ _ _ fun x y z => by cases z]; simp only [toPy, x_eqQ, shI, PyData.eqv, id, true_and]
theorem x_neI (i j : Int) : optQ (wNe (.int i) (.int j)) Q = Q (.bl (!(i == j))) := by
  unfold wNe; rw [eqW _ _ _ fun x y z => by cases z]; simp only [toPy, x_eqQ, shI, PyData.eqv, true_and]
theorem x_eqB (i j : Bool) : optQ (wEq (.bl i) (.bl j)) Q = Q (.bl (i == j)) := by
  unfold wEq; rw [eqW _ _ _ fun x y z => by cases z]; simp only [toPy, x_eqQ, shB, PyData.eqv, id, true_and]
theorem x_neB (i j : Bool) : optQ (wNe (.bl i) (.bl j)) Q = Q (.bl (!(i == j))) := by
  unfold wNe; rw [eqW _ _ _ fun x y z => by cases z]; simp only [toPy, x_eqQ, shB, PyData.eqv, true_and]
theorem x_eqT (x y : List D) : optQ (wEq (.tup x) (.tup y)) Q = eqQ id (toPy [] 40 (.tup x)) (toPy [] 40 (.tup y)) fun b => Q (.bl b) := eqW _ _ _ fun x y z => by cases z
theorem x_neT (x y : List D) : optQ (wNe (.tup x) (.tup y)) Q = eqQ not (toPy [] 40 (.tup x)) (toPy [] 40 (.tup y)) fun b => Q (.bl b) := eqW _ _ _ fun x y z => by cases z
theorem x_eqL (x y : List D) : optQ (wEq (.lsv x) (.lsv y)) Q = eqQ id (toPy [] 40 (.lsv x)) (toPy [] 40 (.lsv y)) fun b => Q (.bl b) := eqW _ _ _ fun x y z => by cases z
theorem x_neL (x y : List D) : optQ (wNe (.lsv x) (.lsv y)) Q = eqQ not (toPy [] 40 (.lsv x)) (toPy [] 40 (.lsv y)) fun b => Q (.bl b) := eqW _ _ _ fun x y z => by cases z
theorem x_pyI (n : Nat) (i : Int) : toPy [] (n + 1) (.int i) = some (.int i) := rfl
theorem x_pyS (n : Nat) (x : List Nat) : toPy [] (n + 1) (.str x) = some (.str ⟨x.toArray⟩) := rfl
theorem x_pyB (n : Nat) (b : Bool) : toPy [] (n + 1) (.bl b) = some (.bool b) := rfl
theorem x_pyN (n : Nat) : toPy [] (n + 1) .non = some .none := rfl
theorem x_pyT (n : Nat) (ds : List D) : toPy [] (n + 1) (.tup ds) = (mapO (toPy [] n) ds).map .tuple := rfl
theorem x_pyF (n : Nat) (ds : List D) : toPy [] (n + 1) (.frl ds) = (mapO (toPy [] n) ds).map .list := rfl
theorem x_pyL (n : Nat) (ds : List D) : toPy [] (n + 1) (.lsv ds) = (mapO (toPy [] n) ds).map .list := rfl
def mpO (o : Option PyData) (p : Option (List PyData)) : Option (List PyData) := match o, p with
  | some b, some bs => some (b :: bs)
  | _, _ => none
theorem x_mp0 (f : D → Option PyData) : mapO f [] = some [] := rfl
theorem x_mpC (f : D → Option PyData) (d : D) (ds : List D) : mapO f (d :: ds) = mpO (f d) (mapO f ds) := by
  conv => lhs; unfold mapO
  unfold mpO; cases f d <;> cases mapO f ds <;> rfl
theorem x_mpO (p : PyData) (ps : List PyData) : mpO (some p) (some ps) = some (p :: ps) := rfl
theorem x_omap {α β : Type} (f : α → β) (a : α) : (some a).map f = some (f a) := rfl
def rpQ (o : Option PyData) (Q : PyData → Prop) : Prop := match o with
  | some p => okShow p ∧ Q p
  | none => False
theorem x_repr (d : D) : optQ (wRepr [d]) Q = rpQ (toPy [] 40 d) fun p => Q (.str (showD p)) := by
  unfold wRepr rpQ; simp only; cases toPy [] 40 d
  · rfl
  · simp only [o_ite, x_some]
theorem x_rp (p : PyData) (Q : PyData → Prop) : rpQ (some p) Q = (okShow p ∧ Q p) := rfl
theorem x_pyfr (n : Nat) (q : Int × Int) : toPy [] (n + 2) (fr q) = some (pf q) := rfl
theorem x_mpfr (n : Nat) (qs : List (Int × Int)) : mapO (toPy [] (n + 2)) (qs.map fr) = some (qs.map pf) := by
  induction qs with
  | nil => rfl
  | cons q qs ih => rw [List.map_cons, List.map_cons, x_mpC, ih]; rfl
theorem x_mpint (n : Nat) (qs : List Int) : mapO (toPy [] (n + 1)) (qs.map D.int) = some (qs.map PyData.int) := by
  induction qs with
  | nil => rfl
  | cons q qs ih => rw [List.map_cons, List.map_cons, x_mpC, ih]; rfl
/-! is, in, isinstance -/
theorem x_isN (f : Bool → Bool) : wIs f .non .non = some (.bl (f true)) := rfl
theorem x_isI (f : Bool → Bool) (i : Int) : wIs f (.int i) .non = some (.bl (f false)) := rfl
theorem x_isS (f : Bool → Bool) (i : List Nat) : wIs f (.str i) .non = some (.bl (f false)) := rfl
theorem x_isT (f : Bool → Bool) (i : List D) : wIs f (.tup i) .non = some (.bl (f false)) := rfl
theorem x_isL (f : Bool → Bool) (i : List D) : wIs f (.lsv i) .non = some (.bl (f false)) := rfl
theorem x_isB (f : Bool → Bool) (i : Bool) : wIs f (.bl i) .non = some (.bl (f false)) := rfl
theorem x_isBB (f : Bool → Bool) (a b : Bool) : wIs f (.bl a) (.bl b) = some (.bl (f (a == b))) := rfl
theorem x_isfr (f : Bool → Bool) (q : Int × Int) : wIs f (fr q) .non = some (.bl (f false)) := rfl
theorem x_inC (c : Nat) (z : List Nat) : wIn (.str [c]) (.str z) = some (.bl (decide (c ∈ z))) := rfl
theorem x_ninC (c : Nat) (z : List Nat) : wNotIn (.str [c]) (.str z) = some (.bl (!decide (c ∈ z))) := rfl
theorem x_isi1 (x : List Nat) : wIsi "str" (.str x) = some (.bl true) := rfl
theorem x_isi2 (x : List Nat) : wIsi "int" (.str x) = some (.bl false) := rfl
theorem x_isi3 (x : Int) : wIsi "int" (.int x) = some (.bl true) := rfl
theorem x_isi4 (x : Int) : wIsi "bool" (.int x) = some (.bl false) := rfl
theorem x_isi5 (x : Int) : wIsi "str" (.int x) = some (.bl false) := rfl
theorem x_isi6 (x : Int) : wIsi "tuple" (.int x) = some (.bl false) := rfl
theorem x_isi7 (x : Int) : wIsi "list" (.int x) = some (.bl false) := rfl
theorem x_isi8 (x : List D) : wIsi "tuple" (.tup x) = some (.bl true) := rfl
theorem x_isi9 (x : List D) : wIsi "int" (.tup x) = some (.bl false) := rfl
theorem x_isi10 (x : List D) : wIsi "list" (.tup x) = some (.bl false) := rfl
theorem x_isi11 (x : List D) : wIsi "list" (.lsv x) = some (.bl true) := rfl
theorem x_isi12 (x : List D) : wIsi "tuple" (.lsv x) = some (.bl false) := rfl
theorem x_isi13 (x : Bool) : wIsi "bool" (.bl x) = some (.bl true) := rfl
theorem x_isi14 (x : Bool) : wIsi "int" (.bl x) = some (.bl true) := rfl
theorem x_isi15 (q : Int × Int) : wIsi "tuple" (fr q) = some (.bl true) := rfl
theorem x_isi16 (x : List D) : wIsi "str" (.tup x) = some (.bl false) := rfl
theorem x_isi17 (x : List D) : wIsi "bool" (.tup x) = some (.bl false) := rfl
theorem x_isi18 (x : List Nat) : wIsi "tuple" (.str x) = some (.bl false) := rfl
theorem x_isi19 (x : List Nat) : wIsi "bool" (.str x) = some (.bl false) := rfl
theorem x_isi20 (b : String) : wIsi b .non = (kitB "NoneType" b).map .bl := rfl
theorem x_ttpf {N : Gn → Prop} {γ : Gn} (n : Nat) (g : GTgs) (q : Int × Int) : tgQ (tTp n g (fr q) γ) N = (2 = n ∧ tgQ (g [.int q.1, .int q.2] γ) N) := x_ttp n g _
end
/-! ### loops -/
section
variable {N : Gn → Prop} {U : D → Gn → Prop} {B C : Gn → Prop} {X : Str → List (Str × D) → Gn → Prop}
theorem gforN {g : GTg} {b : GS} (ws : List D) (I : Nat → Gn → Prop)
    (hs : ∀ i w γ, ws[i]? = some w → I i γ → tgQ (g w γ) fun γ1 => (b γ1).sat (I (i + 1)) U N (I (i + 1)) X)
    (hf : ∀ γ, I ws.length γ → N γ) : ∀ (k i : Nat) (γ : Gn), i + k = ws.length → I i γ → (qForN g b (ws.drop i) γ).sat N U B C X
  | 0, i, γ, hk, h0 => by rw [List.drop_of_length_le (by omega)]; exact hf γ (by rw [← hk]; exact h0)
  | k + 1, i, γ, hk, h0 => by
    rw [List.drop_eq_getElem_cons (show i < ws.length by omega)]
    unfold qForN
    have h := hs i _ γ (List.getElem?_eq_getElem (show i < ws.length by omega)) h0
    revert h
    cases g ws[i] γ with
    | none => exact fun h => h.elim
    | some γ1 =>
      simp only [x_tg]
      cases b γ1 with
      | nx γ' => exact fun q => gforN ws I hs hf k (i + 1) γ' (by omega) q
      | ct γ' => exact fun q => gforN ws I hs hf k (i + 1) γ' (by omega) q
      | bk γ' => exact fun q => q
      | rt w γ' => exact fun q => q
      | exc _ _ _ => exact fun q => q
      | stuck => exact fun q => q
/-- a loop by what holds ahead of its i-th turn -/
theorem gfor {g : GTg} {b : GS} {ws : List D} {γ : Gn} (I : Nat → Gn → Prop) (h0 : I 0 γ)
    (hs : ∀ i w γ, ws[i]? = some w → I i γ → tgQ (g w γ) fun γ1 => (b γ1).sat (I (i + 1)) U N (I (i + 1)) X)
    (hf : ∀ γ, I ws.length γ → N γ) : (qForN g b ws γ).sat N U B C X := gforN ws I hs hf ws.length 0 γ (Nat.zero_add _) h0
/-- a loop by its state, told by a Lean value -/
theorem gforS {σ : Type} {g : GTg} {b : GS} {ws : List D} {γ : Gn} (en : σ → Gn) (I : Nat → σ → Prop) (s0 : σ) (e0 : γ = en s0) (h0 : I 0 s0)
    (hs : ∀ i w s, ws[i]? = some w → I i s → tgQ (g w (en s)) fun γ1 => (b γ1).sat (fun γ' => ∃ s', γ' = en s' ∧ I (i + 1) s') U N (fun γ' => ∃ s', γ' = en s' ∧ I (i + 1) s') X)
    (hf : ∀ s, I ws.length s → N (en s)) : (qForN g b ws γ).sat N U B C X :=
  gfor (fun i γ => ∃ s, γ = en s ∧ I i s) ⟨s0, e0, h0⟩ (fun i w γ hw ⟨s, e, h⟩ => by subst e; exact hs i w s hw h) fun γ ⟨s, e, h⟩ => by subst e; exact hf s h
/-- over a row of Lean values -/
theorem gforX {α σ : Type} {g : GTg} {b : GS} {xs : List α} {f : α → D} {γ : Gn} (en : σ → Gn) (I : Nat → σ → Prop) (s0 : σ) (e0 : γ = en s0) (h0 : I 0 s0)
    (hs : ∀ i x s, xs[i]? = some x → I i s → tgQ (g (f x) (en s)) fun γ1 => (b γ1).sat (fun γ' => ∃ s', γ' = en s' ∧ I (i + 1) s') U N (fun γ' => ∃ s', γ' = en s' ∧ I (i + 1) s') X)
    (hf : ∀ s, I xs.length s → N (en s)) : (qForN g b (xs.map f) γ).sat N U B C X :=
  gforS en I s0 e0 h0 (fun i w s hw h => by
    rw [List.getElem?_map] at hw
    obtain ⟨x, hx, rfl⟩ := Option.map_eq_some_iff.mp hw
    exact hs i x s hx h) fun s h => hf s (by rw [List.length_map] at h; exact h)
/-- .. that folds a step -/
theorem gfold {α σ : Type} {g : GTg} {b : GS} {xs : List α} {f : α → D} {γ : Gn} (en : σ → Gn) (st : σ → α → σ) (I : Nat → σ → Prop) (s0 : σ) (e0 : γ = en s0) (h0 : I 0 s0)
    (hI : ∀ i x s, xs[i]? = some x → I i s → I (i + 1) (st s x))
    (hs : ∀ i x s, xs[i]? = some x → I i s → tgQ (g (f x) (en s)) fun γ1 => (b γ1).sat (fun γ' => γ' = en (st s x)) U N (fun γ' => γ' = en (st s x)) X)
    (hf : I xs.length (xs.foldl st s0) → N (en (xs.foldl st s0))) : (qForN g b (xs.map f) γ).sat N U B C X := by
  refine gforX en (fun i s => s = (xs.take i).foldl st s0 ∧ I i s) s0 e0 ⟨rfl, h0⟩ ?_ ?_
  · rintro i x s hx ⟨es, hi⟩
    have h := hs i x s hx hi
    have hi' := hI i x s hx hi
    have e : st s x = (xs.take (i + 1)).foldl st s0 := by rw [List.take_succ, hx, List.foldl_append, ← es]; rfl
    revert h
    cases g (f x) (en s) with
    | none => exact id
    | some γ1 =>
      simp only [x_tg]
      exact fun h => gfsat_mono h (fun γ' z => ⟨_, z, e, hi'⟩) (fun _ _ z => z) (fun _ z => z) (fun γ' z => ⟨_, z, e, hi'⟩) fun _ _ _ z => z
  · rintro s ⟨es, hi⟩
    rw [List.take_length] at es
    subst es; exact hf hi
theorem gwhN {c : GT} {b : GS} (I : Gn → Prop) (m : Gn → Nat)
    (hs : ∀ γ, I γ → (c γ).sat (fun k γ1 => if k = true then (b γ1).sat (fun γ2 => I γ2 ∧ m γ2 < m γ) U N (fun γ2 => I γ2 ∧ m γ2 < m γ) X else N γ1) X) :
    ∀ (k : Nat) (γ : Gn), m γ < k → I γ → (qWhN c b k γ).sat N U B C X
  | 0, γ, hk, h0 => absurd hk (Nat.not_lt_zero _)
  | k + 1, γ, hk, h0 => by
    unfold qWhN
    rw [x_fl]
    refine gsat_mono (hs γ h0) (fun q S1 h => ?_) fun _ _ _ z => z
    cases q with
    | false => exact h
    | true =>
      revert h
      simp only [if_true]
      cases b S1 with
      | nx γ2 => exact fun q => gwhN I m hs k γ2 (by have := q.2; omega) q.1
      | ct γ2 => exact fun q => gwhN I m hs k γ2 (by have := q.2; omega) q.1
      | bk γ2 => exact fun q => q
      | rt w γ2 => exact fun q => q
      | exc _ _ _ => exact fun q => q
      | stuck => exact fun q => q
theorem gwh {c : GT} {b : GS} {γ : Gn} (I : Gn → Prop) (m : Gn → Nat) (h0 : I γ) (hm : m γ < WF)
    (hs : ∀ γ, I γ → (c γ).sat (fun k γ1 => if k = true then (b γ1).sat (fun γ2 => I γ2 ∧ m γ2 < m γ) U N (fun γ2 => I γ2 ∧ m γ2 < m γ) X else N γ1) X) :
    (qWh c b γ).sat N U B C X := gwhN I m hs WF γ hm h0
/-- a while by its state, told by a Lean value -/
theorem gwhS {σ : Type} {c : GT} {b : GS} {γ : Gn} (en : σ → Gn) (I : σ → Prop) (m : σ → Nat) (s0 : σ) (e0 : γ = en s0) (h0 : I s0) (hm : ∀ s, I s → m s < WF)
    (hs : ∀ s, I s → (c (en s)).sat (fun k γ1 => if k = true then (b γ1).sat (fun γ2 => ∃ s', γ2 = en s' ∧ I s' ∧ m s' < m s) U N (fun γ2 => ∃ s', γ2 = en s' ∧ I s' ∧ m s' < m s) X else N γ1) X) :
    (qWh c b γ).sat N U B C X := by
  have key : ∀ (k n : Nat) (s : σ), m s < k → m s < n → I s → (qWhN c b n (en s)).sat N U B C X := by
    intro k
    induction k with
    | zero => intro n s h; exact absurd h (Nat.not_lt_zero _)
    | succ k ih =>
      intro n s hk hn hi
      cases n with
      | zero => exact absurd hn (Nat.not_lt_zero _)
      | succ n =>
        unfold qWhN
        rw [x_fl]
        refine gsat_mono (hs s hi) (fun q S1 h => ?_) fun _ _ _ z => z
        cases q with
        | false => exact h
        | true =>
          revert h
          simp only [if_true]
          cases b S1 with
          | nx γ2 => rintro ⟨s', rfl, h1, h2⟩; exact ih n s' (by omega) (by omega) h1
          | ct γ2 => rintro ⟨s', rfl, h1, h2⟩; exact ih n s' (by omega) (by omega) h1
          | bk γ2 => exact fun q => q
          | rt w γ2 => exact fun q => q
          | exc _ _ _ => exact fun q => q
          | stuck => exact fun q => q
  subst e0
  exact key (m s0 + 1) WF s0 (Nat.lt_succ_self _) (hm s0 h0) h0
end
/-! ### comprehensions -/
section
variable {X : Str → List (Str × D) → Gn → Prop}
theorem glcN {g : GTg} {t : GT} {e : GE} {vs : List Nat} (ws : List D) (J : Nat → List D → Gn → Prop) {Q : List D → Gn → Prop}
    (hs : ∀ i w acc γ, ws[i]? = some w → J i acc γ → acc.length ≤ i → tgQ (g w γ) fun γ1 => (t γ1).sat (fun b γ2 => if b = true then (e γ2).sat (fun y γ3 => J (i + 1) (acc ++ [y]) (wipeG γ3 vs)) X else J (i + 1) acc (wipeG γ2 vs)) X)
    (hl : ws.length ≤ LINE) (hf : ∀ acc γ, J ws.length acc γ → Q acc γ) : ∀ (k i : Nat) (acc : List D) (γ : Gn), i + k = ws.length → acc.length ≤ i → J i acc γ → (gLcN g t e vs (ws.drop i) acc γ).sat Q X
  | 0, i, acc, γ, hk, ha, h0 => by rw [List.drop_of_length_le (by omega)]; exact hf acc γ (by rw [← hk]; exact h0)
  | k + 1, i, acc, γ, hk, ha, h0 => by
    rw [List.drop_eq_getElem_cons (show i < ws.length by omega)]
    unfold gLcN
    have h := hs i _ acc γ (List.getElem?_eq_getElem (show i < ws.length by omega)) h0 ha
    revert h
    cases g ws[i] γ with
    | none => exact fun h => h.elim
    | some γ1 =>
      simp only [x_tg, x_bind]
      intro h
      refine gsat_mono h (fun b γ2 q => ?_) fun _ _ _ z => z
      cases b with
      | true =>
        simp only [if_true, x_bind] at q ⊢
        refine gsat_mono q (fun y γ3 q => ?_) fun _ _ _ z => z
        rw [if_pos (show acc.length < LINE by omega)]
        exact glcN ws J hs hl hf k (i + 1) _ _ (by omega) (by simp; omega) q
      | false => exact glcN ws J hs hl hf k (i + 1) _ _ (by omega) (by omega) q
theorem glc {g : GTg} {t : GT} {e : GE} {vs : List Nat} {ws : List D} {γ : Gn} (J : Nat → List D → Gn → Prop) {Q : List D → Gn → Prop} (hl : ws.length ≤ 16777216) (h0 : J 0 [] γ)
    (hs : ∀ i w acc γ, ws[i]? = some w → J i acc γ → acc.length ≤ i → tgQ (g w γ) fun γ1 => (t γ1).sat (fun b γ2 => if b = true then (e γ2).sat (fun y γ3 => J (i + 1) (acc ++ [y]) (wipeG γ3 vs)) X else J (i + 1) acc (wipeG γ2 vs)) X)
    (hf : ∀ acc γ, J ws.length acc γ → Q acc γ) : (gLcN g t e vs ws [] γ).sat Q X := glcN ws J hs hl hf ws.length 0 [] γ (Nat.zero_add _) (Nat.le_refl _) h0
/-- each item told by itself, the slots as they were -/
theorem glcM {α : Type} {g : GTg} {e : GE} {vs : List Nat} {xs : List α} {f : α → D} {γ : Gn} (F : α → D) {Q : List D → Gn → Prop} (hl : xs.length ≤ 16777216)
    (hs : ∀ x, x ∈ xs → tgQ (g (f x) γ) fun γ1 => (e γ1).sat (fun y γ3 => y = F x ∧ wipeG γ3 vs = γ) X) (hq : Q (xs.map F) γ) : (gLcN g gTYes e vs (xs.map f) [] γ).sat Q X := by
  refine glc (fun i acc T => acc = (xs.take i).map F ∧ T = γ) (by simpa using hl) ⟨rfl, rfl⟩ ?_ ?_
  · rintro i w acc T hw ⟨rfl, rfl⟩ _
    rw [List.getElem?_map] at hw
    obtain ⟨x, hx, rfl⟩ := Option.map_eq_some_iff.mp hw
    have h := hs x (List.mem_of_getElem? hx)
    revert h
    cases g (f x) T with
    | none => exact id
    | some γ1 =>
      simp only [x_tg, x_tyes, if_true]
      intro h
      refine gsat_mono h (fun y γ3 q => ?_) fun _ _ _ z => z
      obtain ⟨rfl, q⟩ := q
      refine ⟨?_, q⟩
      rw [List.take_succ, List.map_append, hx]; rfl
  · rintro acc T ⟨rfl, rfl⟩
    rw [List.length_map, List.take_length]; exact hq
/-- .. some of them left out -/
theorem glcF {α : Type} {g : GTg} {t : GT} {e : GE} {vs : List Nat} {xs : List α} {f : α → D} {γ : Gn} (p : α → Bool) (F : α → D) {Q : List D → Gn → Prop} (hl : xs.length ≤ 16777216)
    (hs : ∀ x, x ∈ xs → tgQ (g (f x) γ) fun γ1 => (t γ1).sat (fun b γ2 => b = p x ∧ (p x = true → (e γ2).sat (fun y γ3 => y = F x ∧ wipeG γ3 vs = γ) X) ∧ (p x = false → wipeG γ2 vs = γ)) X) (hq : Q ((xs.filter p).map F) γ) : (gLcN g t e vs (xs.map f) [] γ).sat Q X := by
  refine glc (fun i acc T => acc = ((xs.take i).filter p).map F ∧ T = γ) (by simpa using hl) ⟨rfl, rfl⟩ ?_ ?_
  · rintro i w acc T hw ⟨rfl, rfl⟩ _
    rw [List.getElem?_map] at hw
    obtain ⟨x, hx, rfl⟩ := Option.map_eq_some_iff.mp hw
    have h := hs x (List.mem_of_getElem? hx)
    revert h
    cases g (f x) T with
    | none => exact id
    | some γ1 =>
      simp only [x_tg]
      intro h
      refine gsat_mono h (fun b γ2 q => ?_) fun _ _ _ z => z
      obtain ⟨rfl, q1, q2⟩ := q
      rw [List.take_succ, List.filter_append, List.map_append, hx]
      cases hp : p x with
      | true =>
        simp only [if_true]
        refine gsat_mono (q1 hp) (fun y γ3 q => ?_) fun _ _ _ z => z
        obtain ⟨rfl, q⟩ := q
        exact ⟨by simp [hp], q⟩
      | false => exact ⟨by simp [hp], q2 hp⟩
  · rintro acc T ⟨rfl, rfl⟩
    rw [List.length_map, List.take_length]; exact hq
end
theorem intsD_map (lo c : Int) (n : Nat) : intsD lo c n = (List.range n).map fun (k : Nat) => D.int (lo + (k : Int) * c) := rfl
end Fz

/-! Gx2: rules for fractions. -/
namespace Fz
open PySem PySem.Spec PyProof.Rows L2
section
variable {Q : D → Prop}
theorem x_ixfr0 (q : Int × Int) : wIx (fr q) (.int 0) = some (.int q.1) := rfl
theorem x_ixfr1 (q : Int × Int) : wIx (fr q) (.int 1) = some (.int q.2) := rfl
theorem x_lenfr (q : Int × Int) : wLen [fr q] = some (.int 2) := rfl
theorem x_itfr (q : Int × Int) : itW (fr q) = some [.int q.1, .int q.2] := rfl
theorem x_itT (ds : List D) : itW (.tup ds) = some ds := rfl
theorem x_itL (ds : List D) : itW (.lsv ds) = some ds := rfl
theorem x_srcfr (q : Int × Int) : srcW (fr q) = some [.int q.1, .int q.2] := rfl
theorem x_eqfr (p q : Int × Int) : optQ (wEq (fr p) (fr q)) Q = Q (.bl (p == q)) := by
  unfold wEq; rw [eqW _ _ _ fun x y z => by cases z]
  show eqQ id (some (pf p)) (some (pf q)) _ = _
  rw [x_eqQ]
  have e : PyData.eqv (pf p) (pf q) = (p == q) := by
    obtain ⟨a, b⟩ := p
    obtain ⟨c, d⟩ := q
    show PyData.eqv (.tuple [.int a, .int b]) (.tuple [.int c, .int d]) = ((a, b) == (c, d))
    simp [PyData.eqv, PyData.eqvAll]
    rfl
  rw [e]
  have s := sh_fr
  exact propext ⟨fun h => h.2, fun h => ⟨⟨s p, s q⟩, h⟩⟩
theorem x_nefr (p q : Int × Int) : optQ (wNe (fr p) (fr q)) Q = Q (.bl (!(p == q))) := by
  unfold wNe; rw [eqW _ _ _ fun x y z => by cases z]
  show eqQ not (some (pf p)) (some (pf q)) _ = _
  rw [x_eqQ]
  have e : PyData.eqv (pf p) (pf q) = (p == q) := by
    obtain ⟨a, b⟩ := p
    obtain ⟨c, d⟩ := q
    show PyData.eqv (.tuple [.int a, .int b]) (.tuple [.int c, .int d]) = ((a, b) == (c, d))
    simp [PyData.eqv, PyData.eqvAll]
    rfl
  rw [e]
  have s := sh_fr
  exact propext ⟨fun h => h.2, fun h => ⟨⟨s p, s q⟩, h⟩⟩
theorem x_ufr (q : Int × Int) : truD (fr q) [] = some true := rfl
end
end Fz
namespace Fz
open PySem PySem.Spec PyProof.Rows L2
theorem dv_s {j : Int} (h1 : 0 < j) (h2 : j < 2 ^ 64) : divOk j := Bd.div (n := 64) (show j.natAbs < 2 ^ 64 by omega) h1
theorem b62 (i : Int) : (B62 i = true) = (-4611686018427387904 ≤ i ∧ i < 4611686018427387904) := by unfold B62; simp
end Fz
namespace Fz
open PySem PySem.Spec PyProof.Rows L2
theorem small_of {a b c : Int} (ha : -(2 ^ 60) ≤ a ∧ a < 2 ^ 60) (hb : -(2 ^ 60) ≤ b ∧ b < 2 ^ 60) (hc : -(2 ^ 60) ≤ c ∧ c < 2 ^ 60) (h0 : c ≠ 0) : Builtin.Range.small a b c = true := by
  have key : ∀ x y : Int, 0 ≤ x → 0 < y → 0 ≤ x / y ∧ x / y ≤ x := fun x y hx hy => ⟨Int.ediv_nonneg hx (Int.le_of_lt hy), Int.ediv_le_self y hx⟩
  have hr : 0 ≤ Builtin.Range.rangeSize a b c ∧ Builtin.Range.rangeSize a b c < 2 ^ 62 := by
    unfold Builtin.Range.rangeSize
    split
    · split
      · have := key (b - a - 1) c (by omega) (by omega); omega
      · omega
    · split
      · have := key (a - b - 1) (-c) (by omega) (by omega); omega
      · omega
  unfold Builtin.Range.small
  simp only [Builtin.Range.rangeFitsLong, Bool.and_eq_true, Bool.or_eq_true, decide_eq_true_eq, beq_iff_eq]
  refine ⟨⟨⟨⟨by omega, by omega⟩, by omega⟩, by omega⟩, ?_⟩
  right
  split <;> simp only [Bool.and_eq_true, decide_eq_true_eq] <;> omega
theorem rs_nn {a b c : Int} (h0 : c ≠ 0) : 0 ≤ Builtin.Range.rangeSize a b c := by
  unfold Builtin.Range.rangeSize
  split
  · split
    · have := Int.ediv_nonneg (show 0 ≤ b - a - 1 by omega) (show 0 ≤ c by omega); omega
    · omega
  · split
    · have := Int.ediv_nonneg (show 0 ≤ a - b - 1 by omega) (show 0 ≤ -c by omega); omega
    · omega
end Fz
/-! ### what may be shown, by parts -/
namespace Fz
open PySem PySem.Spec PyProof.Rows L2
structure Sh (d c : Nat) (p : PyData) : Prop where
  a : asc p = true
  d : p.depth ≤ d
  c : cst p ≤ c
structure Shs (d c : Nat) (ps : List PyData) : Prop where
  a : asc.ascs ps = true
  d : PyData.depthAll ps ≤ d
  c : cst.csts ps ≤ c
theorem Sh.ok {d c : Nat} {p : PyData} (h : Sh d c p) (hd : d ≤ 50 := by decide) (hc : c ≤ 16777216 := by decide) : okShow p := okShow_of h.a (Nat.le_trans h.d hd) (Nat.le_trans h.c hc)
theorem Sh.int {n : Nat} {i : Int} (h : Bd n i) (hn : 0 < n ∧ n ≤ 1900 := by decide) : Sh 0 (n + 2) (.int i) := by
  have := h.log hn.1
  exact ⟨by simp [asc]; omega, by simp [PyData.depth], by simp [cst]; omega⟩
theorem Sh.nat {n : Nat} {i : Nat} (h : i < 2 ^ n) (hn : 0 < n ∧ n ≤ 1900 := by decide) : Sh 0 (n + 2) (.int (i : Int)) := Sh.int (show (i : Int).natAbs < 2 ^ n by omega) hn
theorem Sh.bl (b : Bool) : Sh 0 5 (.bool b) := ⟨rfl, by simp [PyData.depth], by simp [cst]⟩
theorem Sh.non : Sh 0 4 .none := ⟨rfl, by simp [PyData.depth], by simp [cst]⟩
theorem Sh.lst {d c : Nat} {ps : List PyData} (h : Shs d c ps) : Sh (d + 1) (c + 2) (.list ps) := ⟨h.a, by have := h.d; simp [PyData.depth]; omega, by have := h.c; simp [cst]; omega⟩
theorem Sh.tup {d c : Nat} {ps : List PyData} (h : Shs d c ps) : Sh (d + 1) (c + 3) (.tuple ps) := ⟨h.a, by have := h.d; simp [PyData.depth]; omega, by have := h.c; simp [cst]; omega⟩
theorem Shs.nil : Shs 0 0 [] := ⟨rfl, by simp [PyData.depthAll], by simp [cst.csts]⟩
theorem Shs.cons {d c d' c' : Nat} {p : PyData} {ps : List PyData} (h : Sh d c p) (hs : Shs d' c' ps) : Shs (max d d') (c + 2 + c') (p :: ps) :=
  ⟨by simp [asc.ascs, h.a, hs.a], by have := h.d; have := hs.d; simp [PyData.depthAll]; omega, by have := h.c; have := hs.c; simp [cst.csts]; omega⟩
theorem Sh.fr {n : Nat} {q : Int × Int} (h1 : Bd n q.1) (h2 : Bd n q.2) (hn : 0 < n ∧ n ≤ 1900 := by decide) : Sh 1 (2 * n + 11) (pf q) := by
  have a := Sh.tup (Shs.cons (Sh.int h1 hn) (Shs.cons (Sh.int h2 hn) .nil))
  exact ⟨a.a, Nat.le_trans a.d (by simp), Nat.le_trans a.c (by omega)⟩
theorem Shs.map {α : Type} {f : α → PyData} {d c : Nat} {xs : List α} (h : ∀ x ∈ xs, Sh d c (f x)) : Shs d (xs.length * (c + 2)) (xs.map f) := by
  induction xs with
  | nil => exact ⟨rfl, by simp [PyData.depthAll], by simp [cst.csts]⟩
  | cons x xs ih =>
    have h1 := h x List.mem_cons_self
    have h2 := ih fun y hy => h y (List.mem_cons_of_mem _ hy)
    have h3 := Shs.cons h1 h2
    exact ⟨h3.a, Nat.le_trans h3.d (by simp), Nat.le_trans h3.c (by rw [List.length_cons, Nat.add_mul]; omega)⟩
theorem Shs.le {d c c' : Nat} {ps : List PyData} (h : Shs d c ps) (k : c ≤ c') : Shs d c' ps := ⟨h.a, h.d, Nat.le_trans h.c k⟩
theorem Shs.mapL {α : Type} {f : α → PyData} {d c : Nat} {xs : List α} (L : Nat) (h : ∀ x ∈ xs, Sh d c (f x)) (hl : xs.length ≤ L) : Shs d (L * (c + 2)) (xs.map f) := (Shs.map h).le (Nat.mul_le_mul_right _ hl)
theorem Sh.str {x : List Nat} (L : Nat) (h : ∀ c ∈ x, c < 128) (hl : x.length ≤ L) : Sh 0 (10 * L + 2) (.str ⟨x.toArray⟩) := by
  refine ⟨?_, by simp [PyData.depth], ?_⟩
  · simp only [asc]; rw [Array.all_eq_true']; intro c hc; simp at hc; simpa using h c hc
  · have e : Str.length ⟨x.toArray⟩ = x.length := by simp [Str.length]
    show 10 * (Str.length ⟨x.toArray⟩) + 2 ≤ _
    omega
end Fz
namespace Fz
theorem bls_snoc {ds : List D} {bs : List Bool} (h : blsOf ds = some bs) (b : Bool) : blsOf (ds ++ [.bl b]) = some (bs ++ [b]) := by
  induction ds generalizing bs with
  | nil => cases h; rfl
  | cons d ds ih =>
    cases d <;> simp only [blsOf] at h <;> try cases h
    obtain ⟨cs, h1, rfl⟩ := Option.map_eq_some_iff.mp h
    simp only [List.cons_append, blsOf, ih h1]; rfl
/-- a row of truths that are all true -/
def AllT (ds : List D) : Prop := ∃ bs, blsOf ds = some bs ∧ bs.all id = true
theorem AllT.nil : AllT [] := ⟨[], rfl, rfl⟩
theorem AllT.snoc {ds : List D} (h : AllT ds) : AllT (ds ++ [.bl true]) := by
  obtain ⟨bs, h1, h2⟩ := h
  exact ⟨_, bls_snoc h1 true, by simp only [List.all_append, h2]; rfl⟩
end Fz

/-! Gx3: rules for lambdas, enumerate. -/
namespace Fz
open PySem PySem.Spec PyProof.Rows L2
def llQ (tb : GTab) (o : Option Sl) (Q : Nat → GFn → Prop) : Prop := match o with
  | some (.vl (.lam nm)) => optQ (tb.lookup nm) fun p => Q p.1 p.2
  | _ => False
section
variable {γ : Gn} {QD : D → Gn → Prop} {QL : List D → Gn → Prop} {X : Str → List (Str × D) → Gn → Prop}
theorem x_ll (tb : GTab) (nm : Str) (Q : Nat → GFn → Prop) : llQ tb (some (.vl (.lam nm))) Q = optQ (tb.lookup nm) fun p => Q p.1 p.2 := rfl
theorem x_calll (tb : GTab) (i : Nat) (as : GA) : (gCallL tb i as γ).sat QD X = llQ tb γ[i]? fun np G => (as γ).sat (fun xs γ1 => xs.length = np ∧ (G (xs.map .vl)).sat (fun w _ => QD w γ1) (fun C fs _ => X C fs γ1)) X := by
  unfold gCallL llQ
  rcases γ[i]? with _ | ⟨_ | w | c⟩ <;> try rfl
  cases w <;> try rfl
  rename_i nm
  simp only []
  cases tb.lookup nm with
  | none => rfl
  | some p =>
    obtain ⟨np, G⟩ := p
    show (gCall np 0 (List.range np) [] np G as γ).sat QD X = _
    rw [x_call]
    show _ = (as γ).sat _ X
    refine congrArg (fun f => (as γ).sat f X) ?_
    funext xs γ1
    simp only [List.append_nil, Nat.add_zero]
    by_cases h : xs.length = np
    · subst h
      rw [perm_range]
      simp
    · simp only [h, false_and]
theorem x_ienA (a : GE) : (giEnA a γ).sat QL X = (a γ).sat (fun w γ1 => optQ (wEnA w) fun ws => QL ws γ1) X := by unfold giEnA; simp only [x_bind, x_opt]
theorem x_enA (ds : List D) : wEnA (.lsv ds) = some (enumW ds) := rfl
theorem x_enT (ds : List D) : wEnA (.tup ds) = some (enumW ds) := rfl
theorem x_rvT (ds : List D) : wRevA (.tup ds) = some (.tup ds.reverse) := rfl
theorem x_rvS (x : List Nat) {Q : D → Prop} : optQ (wRevA (.str x)) Q = (x.length ≤ LINE ∧ Q (.str x.reverse)) := x_revS x
theorem x_rvL (ds : List D) : wRevA (.lsv ds) = some (.lsv ds.reverse) := rfl
theorem x_rvF (q : Int × Int) : wRevA (fr q) = some (fr (q.2, q.1)) := rfl
theorem x_lcm (i j : Int) {Q : D → Prop} : optQ (wLcm [.int i, .int j]) Q = ((i.natAbs < 2 ^ 64 ∧ j.natAbs < 2 ^ 64) ∧ Q (.int ((Nat.lcm i.natAbs j.natAbs : Nat) : Int))) := by unfold wLcm wII; simp only [o_ite, x_some]
end
end Fz

namespace Lw
open PySem PySem.Spec PyProof.Rows L2 Fz
/-! ### what the defs do -/
def k_LEAST_TEETH : D := (.int 6)
def k_MOST_TEETH : D := (.int 99)
def k_MOST_WHEELS : D := (.int 8)
def b_is_whole : Sm := (sRet (eAnd (e1 (vIsi "int") (eVar 0)) (eNot (e1 (vIsi "bool") (eVar 0)))))
def F_is_whole : Fn := defF 1 1 b_is_whole
def b_is_row : Sm := (sRet (eAnd (e1 (vIsi "tuple") (eVar 0)) (eCh vLe vLe (eVar 1) (eN vLen (aCons (eVar 0) aNil)) (eVar 2))))
def F_is_row : Fn := defF 3 3 b_is_row
def b_lowest : Sm := (sSeq (sAsg (eIf (tBl (e2 vGt (eVar 1) (eC (.int 0)))) (eN vGcd (aCons (eVar 0) (aCons (eVar 1) aNil))) (e1 vNeg (eN vGcd (aCons (eVar 0) (aCons (eVar 1) aNil))))) (gNm 2))
    (sRet (eN vTup (aCons (e2 vDiv (eVar 0) (eVar 2)) (aCons (e2 vDiv (eVar 1) (eVar 2)) aNil)))))
def F_lowest : Fn := defF 2 3 b_lowest
def b_back_by : Sm := (sSeq (sAsg (eC (.int 1)) (gNm 1))
    (sSeq (sFor (iOf (eVar 0)) (gNm 2) (sAsg (eN Lcm.vLcm (aCons (eVar 1) (aCons (eVar 2) aNil))) (gNm 1)))
    (sRet (e2 vDiv (eVar 1) (e2 vIx (eVar 0) (eC (.int 0)))))))
def F_back_by : Fn := defF 1 3 b_back_by
def b__law_bag : Sm := (sSeq (sAsg (e2 vAdd (eC (.int 52027)) (e2 vMulI (eC (.int 8009)) (eVar 1))) (gNm 2))
    (sSeq (sFor (iOf (eSl (eVar 0) oNone (oSome (eC (.int 16))))) (gNm 3) (sAsg (e2 vMod (eN vInt (aCons (e2 vAdd (e2 vAdd (e2 vMulI (eVar 2) (eC (.int 48271))) (e2 vMod (eN vInt (aCons (eVar 3) aNil)) (eC (.int 2147483629)))) (eC (.int 23))) aNil)) (eC (.int 2147483647))) (gNm 2)))
    (sSeq (sAsg (eIf (tBl (e2 vLt (eVar 1) (eN vLen (aCons (eVar 0) aNil)))) (eN vInt (aCons (e2 vIx (eVar 0) (eVar 1)) aNil)) (eC (.int 0))) (gNm 4))
    (sSeq (sAsg (e2 vMod (eN vInt (aCons (e2 vAdd (e2 vAdd (e2 vMulI (eVar 2) (eC (.int 31))) (e2 vMulI (e2 vMod (eN vInt (aCons (eVar 4) aNil)) (eC (.int 2147483629))) (eC (.int 17)))) (eC (.int 3))) aNil)) (eC (.int 2147483647))) (gNm 2))
    (sRet (eN vLst (aCons (eIf (tOr (tBl (e2 vLt (eVar 4) (eC (.int 0)))) (tBl (e2 vGe (eVar 4) (e2 vPow (eC (.int 10)) (eC (.int 15)))))) (eN vAbs (aCons (eVar 4) aNil)) (eC (.int 0))) (aCons (eVar 2) (aCons (eC (.int 0)) aNil)))))))))
def F__law_bag : Fn := defF 2 5 b__law_bag
def b__law_take : Sm := (sSeq (sIf (tBl (e2 vGt (e2 vIx (eVar 0) (eC (.int 0))) (eC (.int 0)))) (sSeq (sAsg (eN vDivmod (aCons (e2 vIx (eVar 0) (eC (.int 0))) (aCons (eVar 1) aNil))) (gTp 2 (gsCons (gSb (eVar 0) (eC (.int 0))) (gsCons (gNm 2) gsNil))))
    (sRet (eVar 2))) sNil)
    (sSeq (sAsg (e2 vAdd (e2 vIx (eVar 0) (eC (.int 2))) (eC (.int 1))) (gSb (eVar 0) (eC (.int 2))))
    (sSeq (sAsg (e2 vMod (eN vInt (aCons (e2 vAdd (e2 vAdd (e2 vMulI (e2 vIx (eVar 0) (eC (.int 1))) (eC (.int 16807))) (e2 vMulI (eC (.int 4099)) (e2 vIx (eVar 0) (eC (.int 2))))) (eC (.int 1))) aNil)) (eC (.int 2147483647))) (gSb (eVar 0) (eC (.int 1))))
    (sRet (e2 vMod (eN vInt (aCons (e2 vDiv (e2 vIx (eVar 0) (eC (.int 1))) (eC (.int 911))) aNil)) (eVar 1))))))
def F__law_take : Fn := defF 2 3 b__law_take
def b__law_common : Sm := (sSeq (sPar2 0 1 (aCons (eN vAbs (aCons (eVar 0) aNil)) (aCons (eN vAbs (aCons (eVar 1) aNil)) aNil)))
    (sSeq (sWh (tBl (e2 vGt (eVar 1) (eC (.int 0)))) (sPar2 0 1 (aCons (eVar 1) (aCons (e2 vMod (eN vInt (aCons (eVar 0) aNil)) (eVar 1)) aNil))))
    (sRet (eVar 0))))
def F__law_common : Fn := defF 2 2 b__law_common
def b_is_between : Sm := (sRet (eAnd (eN (cF 1 0 [0] [] 1 F_is_whole) (aCons (eVar 0) aNil)) (eCh vLe vLe (eVar 1) (eVar 0) (eVar 2))))
def F_is_between : Fn := defF 3 3 b_is_between
def b_train_by : Sm := (sRet (eN vTup (aCons (eN (cF 2 0 [0, 1] [] 2 F_lowest) (aCons (e2 vIx (eVar 0) (eC (.int 0))) (aCons (e2 vIx (eVar 0) (e1 vNeg (eC (.int 1)))) aNil))) (aCons (e2 vEq (e2 vMod (eN vLen (aCons (eVar 0) aNil)) (eC (.int 2))) (eC (.int 1))) aNil))))
def F_train_by : Fn := defF 1 1 b_train_by
def b__law_lowest : Sm := (sSeq (sAsg (eN (cF 2 0 [0, 1] [] 2 F__law_common) (aCons (eVar 0) (aCons (eVar 1) aNil))) (gNm 2))
    (sSeq (sAsg (eIf (tBl (e2 vGt (eVar 1) (eC (.int 0)))) (eVar 2) (e2 vSub (eC (.int 0)) (eVar 2))) (gNm 2))
    (sRet (eN vTup (aCons (e2 vDiv (eVar 0) (eVar 2)) (aCons (e2 vDiv (eVar 1) (eVar 2)) aNil))))))
def F__law_lowest : Fn := defF 2 3 b__law_lowest
def b__law_turns_back : Sm := (sSeq (sAsg (eC (.int 1)) (gNm 1))
    (sSeq (sFor (iOf (eVar 0)) (gNm 2) (sAsg (e2 vDiv (e2 vMulI (eVar 1) (eVar 2)) (eN (cF 2 0 [0, 1] [] 2 F__law_common) (aCons (eVar 1) (aCons (eVar 2) aNil)))) (gNm 1)))
    (sRet (e2 vDiv (eVar 1) (e2 vIx (eVar 0) (eC (.int 0)))))))
def F__law_turns_back : Fn := defF 1 3 b__law_turns_back
def b_check_teeth : Sm := (sFor (iOf (eN vTup (aCons (eVar 0) (aCons (eVar 1) aNil)))) (gNm 2) (sIf (tNot (tOf (eN (cF 3 0 [0, 1, 2] [] 3 F_is_between) (aCons (eVar 2) (aCons (eC k_LEAST_TEETH) (aCons (eC k_MOST_TEETH) aNil)))))) sStuck sNil))
def F_check_teeth : Fn := defF 2 3 b_check_teeth
def F_L_wrong_wheel : Fn := defF 2 2 (sRet (eN (cF 3 0 [0, 1, 2] [] 3 F_is_between) (aCons (eVar 0) (aCons (eC k_LEAST_TEETH) (aCons (eC k_MOST_TEETH) aNil)))))
def lt_lam : LTab := [("wrong_wheel", 2, F_L_wrong_wheel)]
def b_first_wrong : Sm := (sSeq (sFor (iArg enA (aCons (eVar 0) aNil)) (gTp 2 (gsCons (gNm 2) (gsCons (gNm 3) gsNil))) (sIf (tNot (tOf (eCallL lt_lam 1 (aCons (eVar 3) (aCons (eSl (eVar 0) oNone (oSome (eVar 2))) aNil))))) (sRet (eVar 2)) sNil))
    (sRet (eC .non)))
def F_first_wrong : Fn := defF 2 4 b_first_wrong
def b_is_hunting : Sm := (sSeq (sExpr (eN (cF 2 0 [0, 1] [] 2 F_check_teeth) (aCons (eVar 0) (aCons (eVar 1) aNil))))
    (sRet (e2 vEq (eN vGcd (aCons (eVar 0) (aCons (eVar 1) aNil))) (eC (.int 1)))))
def F_is_hunting : Fn := defF 2 2 b_is_hunting
def b_wrong_wheel : Sm := (sRet (eN (cF 2 0 [0, 1] [] 2 F_first_wrong) (aCons (eVar 0) (aCons (eC (.lam "wrong_wheel")) aNil))))
def F_wrong_wheel : Fn := defF 1 1 b_wrong_wheel
def b_check_train : Sm := (sSeq (sIf (tNot (tOf (eN (cF 3 0 [0, 1, 2] [] 3 F_is_row) (aCons (eVar 0) (aCons (eC (.int 2)) (aCons (eC k_MOST_WHEELS) aNil)))))) sStuck sNil)
    (sSeq (sAsg (eN (cF 1 0 [0] [] 1 F_wrong_wheel) (aCons (eVar 0) aNil)) (gNm 1))
    (sIf (tBl (e2 vNotN (eVar 1) (eC .non))) sStuck sNil)))
def F_check_train : Fn := defF 1 2 b_check_train
def b_train : Sm := (sSeq (sExpr (eN (cF 1 0 [0] [] 1 F_check_train) (aCons (eVar 0) aNil)))
    (sRet (eN (cF 1 0 [0] [] 1 F_train_by) (aCons (eVar 0) aNil))))
def F_train : Fn := defF 1 1 b_train
def b_turns_back : Sm := (sSeq (sExpr (eN (cF 1 0 [0] [] 1 F_check_train) (aCons (eVar 0) aNil)))
    (sRet (eN (cF 1 0 [0] [] 1 F_back_by) (aCons (eVar 0) aNil))))
def F_turns_back : Fn := defF 1 1 b_turns_back
def b__law_right : Sm := (sSeq (sAsg (eGc (eN vTuple (aCons (eLc (iArg rng1 (aCons (e2 vAdd (eC (.int 2)) (eN (cF 2 0 [0, 1] [] 2 F__law_take) (aCons (eVar 0) (aCons (eC (.int 7)) aNil)))) aNil)) (gNm 7) tYesD (e2 vAdd (eC (.int 6)) (eN (cF 2 0 [0, 1] [] 2 F__law_take) (aCons (eVar 0) (aCons (eC (.int 94)) aNil)))) [7]) aNil))) (gNm 1))
    (sSeq (sAsg (eN vTup (aCons (eN (cF 2 0 [0, 1] [] 2 F__law_lowest) (aCons (e2 vIx (eVar 1) (eC (.int 0))) (aCons (e2 vIx (eVar 1) (e1 vNeg (eC (.int 1)))) aNil))) (aCons (e2 vEq (e2 vMod (eN vInt (aCons (eN vLen (aCons (eVar 1) aNil)) aNil)) (eC (.int 2))) (eC (.int 1))) aNil))) (gNm 2))
    (sSeq (sIf (tOr (tBl (e2 vNe (eGc (eN vRepr (aCons (eN vLst (aCons (eN (cF 1 0 [0] [] 1 F_train) (aCons (eVar 1) aNil)) (aCons (eN (cF 0 1 [0] [] 1 F_train) (aCons (eVar 1) aNil)) aNil))) aNil))) (eGc (eN vRepr (aCons (eN vLst (aCons (eVar 2) (aCons (eVar 2) aNil))) aNil))))) (tBl (e2 vNe (eN (cF 1 0 [0] [] 1 F_train) (aCons (e1 vRevA (eVar 1)) aNil)) (eN vTup (aCons (e1 vRevA (e2 vIx (eVar 2) (eC (.int 0)))) (aCons (e2 vIx (eVar 2) (eC (.int 1))) aNil)))))) (sRet (eC (.bl false))) sNil)
    (sSeq (sAsg (eN (cF 1 0 [0] [] 1 F__law_turns_back) (aCons (eVar 1) aNil)) (gNm 3))
    (sSeq (sIf (tBl (e2 vNe (eGc (eN vRepr (aCons (eN vLst (aCons (eN (cF 1 0 [0] [] 1 F_turns_back) (aCons (eVar 1) aNil)) (aCons (eN (cF 0 1 [0] [] 1 F_turns_back) (aCons (eVar 1) aNil)) aNil))) aNil))) (eGc (eN vRepr (aCons (eN vLst (aCons (eVar 3) (aCons (eVar 3) aNil))) aNil))))) (sRet (eC (.bl false))) sNil)
    (sSeq (sIf (tBl (e2 vNe (eLc (iOf (eVar 1)) (gNm 8) (tBl (e2 vNe (e2 vMod (eN vInt (aCons (e2 vMulI (eVar 3) (e2 vIx (eVar 1) (eC (.int 0)))) aNil)) (eVar 8)) (eC (.int 0)))) (eVar 8) [8]) (eN vLst aNil))) (sRet (eC (.bl false))) sNil)
    (sSeq (sPar2 5 6 (aCons (e2 vIx (eVar 1) (eC (.int 0))) (aCons (e2 vIx (eVar 1) (eC (.int 1))) aNil)))
    (sSeq (sAsg (e2 vEq (eN (cF 2 0 [0, 1] [] 2 F__law_common) (aCons (eVar 5) (aCons (eVar 6) aNil))) (eC (.int 1))) (gNm 4))
    (sSeq (sIf (tBl (e2 vNe (eGc (eN vRepr (aCons (eN vLst (aCons (eN (cF 2 0 [0, 1] [] 2 F_is_hunting) (aCons (eVar 5) (aCons (eVar 6) aNil))) (aCons (eN (cF 0 2 [1, 0] [] 2 F_is_hunting) (aCons (eVar 6) (aCons (eVar 5) aNil))) (aCons (eN (cF 2 0 [0, 1] [] 2 F_is_hunting) (aCons (eVar 6) (aCons (eVar 5) aNil))) aNil)))) aNil))) (eN vRepr (aCons (e2 vMulA (eN vLst (aCons (eVar 4) aNil)) (eC (.int 3))) aNil)))) (sRet (eC (.bl false))) sNil)
    (sRet (eAnd (e2 vEq (eVar 4) (e2 vEq (eN (cF 1 0 [0] [] 1 F_turns_back) (aCons (eN vTup (aCons (eVar 5) (aCons (eVar 6) aNil))) aNil)) (eVar 6))) (e2 vEq (e2 vMulI (eN (cF 1 0 [0] [] 1 F_turns_back) (aCons (e1 vRevA (eVar 1)) aNil)) (e2 vIx (eVar 1) (e1 vNeg (eC (.int 1))))) (e2 vMulI (eVar 3) (e2 vIx (eVar 1) (eC (.int 0))))))))))))))))
def F__law_right : Fn := defF 1 9 b__law_right
def b_law : Sm := (sSeq (sFor (iArg rng1 (aCons (eN vMax2 (aCons (eC (.int 2)) (aCons (eN vMin2 (aCons (eN vLen (aCons (eVar 0) aNil)) (aCons (eC (.int 3)) aNil))) aNil))) aNil)) (gNm 1) (sSeq (sAsg (eN (cF 2 0 [0, 1] [] 2 F__law_bag) (aCons (eVar 0) (aCons (eVar 1) aNil))) (gNm 2))
    (sIf (tNot (tOf (eGc (eN vAll (aCons (eLc (iArg rng1 (aCons (eC (.int 15)) aNil)) (gNm 3) tYesD (eN (cF 1 0 [0] [] 1 F__law_right) (aCons (eVar 2) aNil)) [3]) aNil))))) (sRet (eC (.bl false))) sNil)))
    (sRet (eC (.bl true))))
def F_law : Fn := defF 1 4 b_law
/-! ### .. with lists as values -/
def g_is_whole : GS := (qRet (gAnd (g1 (wIsi "int") (gVar 0)) (gNot (g1 (wIsi "bool") (gVar 0)))))
def G_is_whole : GFn := defG [false] false 1 1 g_is_whole
def g_is_row : GS := (qRet (gAnd (g1 (wIsi "tuple") (gVar 0)) (gCh wLe wLe (gVar 1) (gN1 wLen (gVar 0)) (gVar 2))))
def G_is_row : GFn := defG [false, false, false] false 3 3 g_is_row
def g_lowest : GS := (qSeq (qAsg (gIf (gBl (g2 wGt (gVar 1) (gC (.int 0)))) (gN wGcd (gaCons (gVar 0) (gaCons (gVar 1) gaNil))) (g1 wNeg (gN wGcd (gaCons (gVar 0) (gaCons (gVar 1) gaNil))))) (tNm 2))
    (qRet (gN wTup (gaCons (g2 wDiv (gVar 0) (gVar 2)) (gaCons (g2 wDiv (gVar 1) (gVar 2)) gaNil)))))
def G_lowest : GFn := defG [false, false] false 2 3 g_lowest
def g_back_by : GS := (qSeq (qAsg (gC (.int 1)) (tNm 1))
    (qSeq (qFor [2] (giOf (gVar 0)) (tNm 2) (qWp [2] (qAsg (gN wLcm (gaCons (gVar 1) (gaCons (gVar 2) gaNil))) (tNm 1))))
    (qRet (g2 wDiv (gVar 1) (g2 wIx (gVar 0) (gC (.int 0)))))))
def G_back_by : GFn := defG [false] false 1 3 g_back_by
def g__law_bag : GS := (qSeq (qAsg (g2 wAdd (gC (.int 52027)) (g2 wMulI (gC (.int 8009)) (gVar 1))) (tNm 2))
    (qSeq (qFor [3] (giOf (gSl (gVar 0) goNone (goSome (gC (.int 16))))) (tNm 3) (qWp [3] (qAsg (g2 wMod (gN1 wInt (g2 wAdd (g2 wAdd (g2 wMulI (gVar 2) (gC (.int 48271))) (g2 wMod (gN1 wInt (gVar 3)) (gC (.int 2147483629)))) (gC (.int 23)))) (gC (.int 2147483647))) (tNm 2))))
    (qSeq (qAsg (gIf (gBl (g2 wLt (gVar 1) (gN1 wLen (gVar 0)))) (gN1 wInt (g2 wIx (gVar 0) (gVar 1))) (gC (.int 0))) (tNm 4))
    (qSeq (qAsg (g2 wMod (gN1 wInt (g2 wAdd (g2 wAdd (g2 wMulI (gVar 2) (gC (.int 31))) (g2 wMulI (g2 wMod (gN1 wInt (gVar 4)) (gC (.int 2147483629))) (gC (.int 17)))) (gC (.int 3)))) (gC (.int 2147483647))) (tNm 2))
    (qRet (gN wLst (gaCons (gIf (gTOr (gBl (g2 wLt (gVar 4) (gC (.int 0)))) (gBl (g2 wGe (gVar 4) (g2 wPow (gC (.int 10)) (gC (.int 15)))))) (gN1 wAbs (gVar 4)) (gC (.int 0))) (gaCons (gVar 2) (gaCons (gC (.int 0)) gaNil)))))))))
def G__law_bag : GFn := defG [false, false] true 2 5 g__law_bag
def g__law_take : GS := (qSeq (qIf (gBl (g2 wGt (g2k wIx 0 (gC (.int 0))) (gC (.int 0)))) (qSeq (qAsg (gN wDivmod (gaCons (g2k wIx 0 (gC (.int 0))) (gaCons (gVar 1) gaNil))) (tTp 2 (tsCons (tSb 0 0) (tsCons (tNm 2) tsNil))))
    (qRet (gVar 2))) qNil)
    (qSeq (qSet 0 (g2 wAdd (g2k wIx 0 (gC (.int 2))) (gC (.int 1))) (gC (.int 2)))
    (qSeq (qSet 0 (g2 wMod (gN1 wInt (g2 wAdd (g2 wAdd (g2 wMulI (g2k wIx 0 (gC (.int 1))) (gC (.int 16807))) (g2 wMulI (gC (.int 4099)) (g2k wIx 0 (gC (.int 2))))) (gC (.int 1)))) (gC (.int 2147483647))) (gC (.int 1)))
    (qRet (g2 wMod (gN1 wInt (g2 wDiv (g2k wIx 0 (gC (.int 1))) (gC (.int 911)))) (gVar 1))))))
def G__law_take : GFn := defG [true, false] false 2 3 g__law_take
def g__law_common : GS := (qSeq (qPar2 0 1 (gaCons (gN1 wAbs (gVar 0)) (gaCons (gN1 wAbs (gVar 1)) gaNil)))
    (qSeq (qPre [] (qWh (gBl (g2 wGt (gVar 1) (gC (.int 0)))) (qWp [] (qPar2 0 1 (gaCons (gVar 1) (gaCons (g2 wMod (gN1 wInt (gVar 0)) (gVar 1)) gaNil))))))
    (qRet (gVar 0))))
def G__law_common : GFn := defG [false, false] false 2 2 g__law_common
def g_is_between : GS := (qRet (gAnd (gCall 1 0 [0] [] 1 G_is_whole (gaCons (gVar 0) gaNil)) (gCh wLe wLe (gVar 1) (gVar 0) (gVar 2))))
def G_is_between : GFn := defG [false, false, false] false 3 3 g_is_between
def g_train_by : GS := (qRet (gN wTup (gaCons (gCall 2 0 [0, 1] [] 2 G_lowest (gaCons (g2 wIx (gVar 0) (gC (.int 0))) (gaCons (g2 wIx (gVar 0) (g1 wNeg (gC (.int 1)))) gaNil))) (gaCons (g2 wEq (g2 wMod (gN1 wLen (gVar 0)) (gC (.int 2))) (gC (.int 1))) gaNil))))
def G_train_by : GFn := defG [false] false 1 1 g_train_by
def g__law_lowest : GS := (qSeq (qAsg (gCall 2 0 [0, 1] [] 2 G__law_common (gaCons (gVar 0) (gaCons (gVar 1) gaNil))) (tNm 2))
    (qSeq (qAsg (gIf (gBl (g2 wGt (gVar 1) (gC (.int 0)))) (gVar 2) (g2 wSub (gC (.int 0)) (gVar 2))) (tNm 2))
    (qRet (gN wTup (gaCons (g2 wDiv (gVar 0) (gVar 2)) (gaCons (g2 wDiv (gVar 1) (gVar 2)) gaNil))))))
def G__law_lowest : GFn := defG [false, false] false 2 3 g__law_lowest
def g__law_turns_back : GS := (qSeq (qAsg (gC (.int 1)) (tNm 1))
    (qSeq (qFor [2] (giOf (gVar 0)) (tNm 2) (qWp [2] (qAsg (g2 wDiv (g2 wMulI (gVar 1) (gVar 2)) (gCall 2 0 [0, 1] [] 2 G__law_common (gaCons (gVar 1) (gaCons (gVar 2) gaNil)))) (tNm 1))))
    (qRet (g2 wDiv (gVar 1) (g2 wIx (gVar 0) (gC (.int 0)))))))
def G__law_turns_back : GFn := defG [false] false 1 3 g__law_turns_back
def g_check_teeth : GS := (qFor [2] (giOf (gN wTup (gaCons (gVar 0) (gaCons (gVar 1) gaNil)))) (tNm 2) (qWp [2] (qIf (gTNot (gTru (gCall 3 0 [0, 1, 2] [] 3 G_is_between (gaCons (gVar 2) (gaCons (gC k_LEAST_TEETH) (gaCons (gC k_MOST_TEETH) gaNil)))))) qStuck qNil)))
def G_check_teeth : GFn := defG [false, false] false 2 3 g_check_teeth
def g_L_wrong_wheel : GS := (qRet (gCall 3 0 [0, 1, 2] [] 3 G_is_between (gaCons (gVar 0) (gaCons (gC k_LEAST_TEETH) (gaCons (gC k_MOST_TEETH) gaNil)))))
def G_L_wrong_wheel : GFn := defG [false, false] false 2 2 g_L_wrong_wheel
def gt_lam : GTab := [("wrong_wheel", 2, G_L_wrong_wheel)]
theorem gl_wrong_wheel : gt_lam.lookup ("wrong_wheel" : Str) = some (2, G_L_wrong_wheel) := rfl
def g_first_wrong : GS := (qSeq (qFor [2, 3] (giEnA (gVar 0)) (tTp 2 (tsCons (tNm 2) (tsCons (tNm 3) tsNil))) (qWp [2, 3] (qIf (gTNot (gTru (gCallL gt_lam 1 (gaCons (gVar 3) (gaCons (gSl (gVar 0) goNone (goSome (gVar 2))) gaNil))))) (qRet (gVar 2)) qNil)))
    (qRet (gC .non)))
def G_first_wrong : GFn := defG [false, false] false 2 4 g_first_wrong
def g_is_hunting : GS := (qSeq (qExpr (gCall 2 0 [0, 1] [] 2 G_check_teeth (gaCons (gVar 0) (gaCons (gVar 1) gaNil))))
    (qRet (g2 wEq (gN wGcd (gaCons (gVar 0) (gaCons (gVar 1) gaNil))) (gC (.int 1)))))
def G_is_hunting : GFn := defG [false, false] false 2 2 g_is_hunting
def g_wrong_wheel : GS := (qRet (gCall 2 0 [0, 1] [] 2 G_first_wrong (gaCons (gVar 0) (gaCons (gC (.lam "wrong_wheel")) gaNil))))
def G_wrong_wheel : GFn := defG [false] false 1 1 g_wrong_wheel
def g_check_train : GS := (qSeq (qIf (gTNot (gTru (gCall 3 0 [0, 1, 2] [] 3 G_is_row (gaCons (gVar 0) (gaCons (gC (.int 2)) (gaCons (gC k_MOST_WHEELS) gaNil)))))) qStuck qNil)
    (qSeq (qAsg (gCall 1 0 [0] [] 1 G_wrong_wheel (gaCons (gVar 0) gaNil)) (tNm 1))
    (qIf (gBl (g2 (wIs not) (gVar 1) (gC .non))) qStuck qNil)))
def G_check_train : GFn := defG [false] false 1 2 g_check_train
def g_train : GS := (qSeq (qExpr (gCall 1 0 [0] [] 1 G_check_train (gaCons (gVar 0) gaNil)))
    (qRet (gCall 1 0 [0] [] 1 G_train_by (gaCons (gVar 0) gaNil))))
def G_train : GFn := defG [false] false 1 1 g_train
def g_turns_back : GS := (qSeq (qExpr (gCall 1 0 [0] [] 1 G_check_train (gaCons (gVar 0) gaNil)))
    (qRet (gCall 1 0 [0] [] 1 G_back_by (gaCons (gVar 0) gaNil))))
def G_turns_back : GFn := defG [false] false 1 1 g_turns_back
def g__law_right : GS := (qSeq (qAsg (gN1 wTuple (gLc (giN wRng1 (gaCons (g2 wAdd (gC (.int 2)) (gCallIo 0 1 [0] [] 2 G__law_take (gaCons (gC (.int 7)) gaNil))) gaNil)) (tNm 7) gTYes (g2 wAdd (gC (.int 6)) (gCallIo 0 1 [0] [] 2 G__law_take (gaCons (gC (.int 94)) gaNil))) [7])) (tNm 1))
    (qSeq (qAsg (gN wTup (gaCons (gCall 2 0 [0, 1] [] 2 G__law_lowest (gaCons (g2 wIx (gVar 1) (gC (.int 0))) (gaCons (g2 wIx (gVar 1) (g1 wNeg (gC (.int 1)))) gaNil))) (gaCons (g2 wEq (g2 wMod (gN1 wInt (gN1 wLen (gVar 1))) (gC (.int 2))) (gC (.int 1))) gaNil))) (tNm 2))
    (qSeq (qIf (gTOr (gBl (g2 wNe (gN1 wRepr (gN wLst (gaCons (gCall 1 0 [0] [] 1 G_train (gaCons (gVar 1) gaNil)) (gaCons (gCall 0 1 [0] [] 1 G_train (gaCons (gVar 1) gaNil)) gaNil)))) (gN1 wRepr (gN wLst (gaCons (gVar 2) (gaCons (gVar 2) gaNil)))))) (gBl (g2 wNe (gCall 1 0 [0] [] 1 G_train (gaCons (g1 wRevA (gVar 1)) gaNil)) (gN wTup (gaCons (g1 wRevA (g2 wIx (gVar 2) (gC (.int 0)))) (gaCons (g2 wIx (gVar 2) (gC (.int 1))) gaNil)))))) (qRet (gC (.bl false))) qNil)
    (qSeq (qAsg (gCall 1 0 [0] [] 1 G__law_turns_back (gaCons (gVar 1) gaNil)) (tNm 3))
    (qSeq (qIf (gBl (g2 wNe (gN1 wRepr (gN wLst (gaCons (gCall 1 0 [0] [] 1 G_turns_back (gaCons (gVar 1) gaNil)) (gaCons (gCall 0 1 [0] [] 1 G_turns_back (gaCons (gVar 1) gaNil)) gaNil)))) (gN1 wRepr (gN wLst (gaCons (gVar 3) (gaCons (gVar 3) gaNil)))))) (qRet (gC (.bl false))) qNil)
    (qSeq (qIf (gBl (g2 wNe (gLc (giOf (gVar 1)) (tNm 8) (gBl (g2 wNe (g2 wMod (gN1 wInt (g2 wMulI (gVar 3) (g2 wIx (gVar 1) (gC (.int 0))))) (gVar 8)) (gC (.int 0)))) (gVar 8) [8]) (gN wLst gaNil))) (qRet (gC (.bl false))) qNil)
    (qSeq (qPar2 5 6 (gaCons (g2 wIx (gVar 1) (gC (.int 0))) (gaCons (g2 wIx (gVar 1) (gC (.int 1))) gaNil)))
    (qSeq (qAsg (g2 wEq (gCall 2 0 [0, 1] [] 2 G__law_common (gaCons (gVar 5) (gaCons (gVar 6) gaNil))) (gC (.int 1))) (tNm 4))
    (qSeq (qIf (gBl (g2 wNe (gN1 wRepr (gN wLst (gaCons (gCall 2 0 [0, 1] [] 2 G_is_hunting (gaCons (gVar 5) (gaCons (gVar 6) gaNil))) (gaCons (gCall 0 2 [1, 0] [] 2 G_is_hunting (gaCons (gVar 6) (gaCons (gVar 5) gaNil))) (gaCons (gCall 2 0 [0, 1] [] 2 G_is_hunting (gaCons (gVar 6) (gaCons (gVar 5) gaNil))) gaNil))))) (gN1 wRepr (g2 wMulA (gN wLst (gaCons (gVar 4) gaNil)) (gC (.int 3)))))) (qRet (gC (.bl false))) qNil)
    (qRet (gAnd (g2 wEq (gVar 4) (g2 wEq (gCall 1 0 [0] [] 1 G_turns_back (gaCons (gN wTup (gaCons (gVar 5) (gaCons (gVar 6) gaNil))) gaNil)) (gVar 6))) (g2 wEq (g2 wMulI (gCall 1 0 [0] [] 1 G_turns_back (gaCons (g1 wRevA (gVar 1)) gaNil)) (g2 wIx (gVar 1) (g1 wNeg (gC (.int 1))))) (g2 wMulI (gVar 3) (g2 wIx (gVar 1) (gC (.int 0))))))))))))))))
def G__law_right : GFn := defG [true] false 1 9 g__law_right
def g_law : GS := (qSeq (qFor [1, 2] (giN wRng1 (gaCons (gN wMax2 (gaCons (gC (.int 2)) (gaCons (gN wMin2 (gaCons (gN1 wLen (gVar 0)) (gaCons (gC (.int 3)) gaNil))) gaNil))) gaNil)) (tNm 1) (qWp [1, 2] (qSeq (qAsgO (gCall 2 0 [0, 1] [] 2 G__law_bag (gaCons (gVar 0) (gaCons (gVar 1) gaNil))) 2)
    (qIf (gTNot (gTru (gN1 wAll (gLc (giN wRng1 (gaCons (gC (.int 15)) gaNil)) (tNm 3) gTYes (gCallIo 2 0 [] [] 1 G__law_right gaNil) [3])))) (qRet (gC (.bl false))) qNil))))
    (qRet (gC (.bl true))))
def G_law : GFn := defG [false] false 1 4 g_law
end Lw

namespace Lw
open PySem PySem.Spec PyProof.Rows L2 Fz
theorem sim_is_whole : SimFn false F_is_whole G_is_whole := simF_def rfl
  (sim_ret (sim_and (sim_1 (w_isi "int") (SimE.p (sim_var 0))) (sim_not (SimE.p (sim_1 (w_isi "bool") (SimE.p (sim_var 0)))))))
theorem sim_is_row : SimFn false F_is_row G_is_row := simF_def rfl
  (sim_ret (sim_and (sim_1 (w_isi "tuple") (SimE.p (sim_var 0))) (sim_ch (w_cmp _) (w_cmp _) (sim_var 1) (sim_n1 w_len (SimE.p (sim_var 0))) (SimE.p (sim_var 2)))))
theorem sim_lowest : SimFn false F_lowest G_lowest := simF_def rfl
  (sim_seq (sim_asg (sim_if (sim_tbl (SimE.p (sim_2 (w_cmp _) (sim_var 1) (SimE.p sim_c)))) (sim_n w_gcd (sim_cons (sim_var 0) (sim_cons (sim_var 1) sim_nil))) (sim_1 w_neg (SimE.p (sim_n w_gcd (sim_cons (sim_var 0) (sim_cons (sim_var 1) sim_nil)))))) sg_nm)
    (sim_ret (sim_n w_tup (sim_cons (sim_2 w_div (sim_var 0) (SimE.p (sim_var 2))) (sim_cons (sim_2 w_div (sim_var 1) (SimE.p (sim_var 2))) sim_nil)))))
theorem sim_back_by : SimFn false F_back_by G_back_by := simF_def rfl
  (sim_seq (sim_asg sim_c sg_nm)
    (sim_seq (sim_for (sim_iof (sim_var 0)) sg_nm (sim_wp (sim_asg (sim_n w_lcm (sim_cons (sim_var 1) (sim_cons (sim_var 2) sim_nil))) sg_nm)))
    (sim_ret (sim_2 w_div (sim_var 1) (SimE.p (sim_2 w_ix (sim_var 0) (SimE.p sim_c)))))))
theorem sim__law_bag : SimFn true F__law_bag G__law_bag := simF_def rfl
  (sim_seq (sim_asg (sim_2 w_add sim_c (SimE.p (sim_2 w_mulI sim_c (SimE.p (sim_var 1))))) sg_nm)
    (sim_seq (sim_for (sim_iof (sim_sl (sim_var 0) sim_onone (sim_osome sim_c))) sg_nm (sim_wp (sim_asg (sim_2 w_mod (sim_n1 w_int (SimE.p (sim_2 w_add (sim_2 w_add (sim_2 w_mulI (sim_var 2) (SimE.p sim_c)) (SimE.p (sim_2 w_mod (sim_n1 w_int (SimE.p (sim_var 3))) (SimE.p sim_c)))) (SimE.p sim_c)))) (SimE.p sim_c)) sg_nm)))
    (sim_seq (sim_asg (sim_if (sim_tbl (SimE.p (sim_2 (w_cmp _) (sim_var 1) (SimE.p (sim_n1 w_len (SimE.p (sim_var 0))))))) (sim_n1 w_int (SimE.p (sim_2 w_ix (sim_var 0) (SimE.p (sim_var 1))))) sim_c) sg_nm)
    (sim_seq (sim_asg (sim_2 w_mod (sim_n1 w_int (SimE.p (sim_2 w_add (sim_2 w_add (sim_2 w_mulI (sim_var 2) (SimE.p sim_c)) (SimE.p (sim_2 w_mulI (sim_2 w_mod (sim_n1 w_int (SimE.p (sim_var 4))) (SimE.p sim_c)) (SimE.p sim_c)))) (SimE.p sim_c)))) (SimE.p sim_c)) sg_nm)
    (sim_retF (fr_n w_lst (sim_cons (sim_if (sim_tor (sim_tbl (SimE.p (sim_2 (w_cmp _) (sim_var 4) (SimE.p sim_c)))) (sim_tbl (SimE.p (sim_2 (w_cmp _) (sim_var 4) (SimE.p (sim_2 w_pow sim_c (SimE.p sim_c))))))) (sim_n1 w_abs (SimE.p (sim_var 4))) sim_c) (sim_cons (sim_var 2) (sim_cons sim_c sim_nil)))))))))
theorem sim__law_take : SimFn false F__law_take G__law_take := simF_def rfl
  (sim_seq (sim_sif (sim_tbl (SimE.p (sim_2 (w_cmp _) (sim_2k w_ix (SimE.p sim_c)) (SimE.p sim_c)))) (sim_seq (sim_asg (sim_n w_divmod (sim_cons (sim_2k w_ix (SimE.p sim_c)) (sim_cons (sim_var 1) sim_nil))) (sg_tp (sgs_cons sg_sb (sgs_cons sg_nm sgs_nil))))
    (sim_ret (sim_var 2))) sim_snil)
    (sim_seq (sim_set (sim_2 w_add (sim_2k w_ix (SimE.p sim_c)) (SimE.p sim_c)) sim_c)
    (sim_seq (sim_set (sim_2 w_mod (sim_n1 w_int (SimE.p (sim_2 w_add (sim_2 w_add (sim_2 w_mulI (sim_2k w_ix (SimE.p sim_c)) (SimE.p sim_c)) (SimE.p (sim_2 w_mulI sim_c (SimE.p (sim_2k w_ix (SimE.p sim_c)))))) (SimE.p sim_c)))) (SimE.p sim_c)) sim_c)
    (sim_ret (sim_2 w_mod (sim_n1 w_int (SimE.p (sim_2 w_div (sim_2k w_ix (SimE.p sim_c)) (SimE.p sim_c)))) (SimE.p (sim_var 1)))))))
theorem sim__law_common : SimFn false F__law_common G__law_common := simF_def rfl
  (sim_seq (sim_par2 (sim_cons (sim_n1 w_abs (SimE.p (sim_var 0))) (sim_cons (sim_n1 w_abs (SimE.p (sim_var 1))) sim_nil)))
    (sim_seq (sim_pre (sim_wh (sim_tbl (SimE.p (sim_2 (w_cmp _) (sim_var 1) (SimE.p sim_c)))) (sim_wp (sim_par2 (sim_cons (sim_var 1) (sim_cons (sim_2 w_mod (sim_n1 w_int (SimE.p (sim_var 0))) (SimE.p (sim_var 1))) sim_nil))))))
    (sim_ret (sim_var 0))))
theorem sim_is_between : SimFn false F_is_between G_is_between := simF_def rfl
  (sim_ret (sim_and (sim_call (n := 1) (m := 0) (pm := [0]) (dds := []) (np := 1) sim_is_whole (sim_cons (sim_var 0) sim_nil)) (sim_ch (w_cmp _) (w_cmp _) (sim_var 1) (sim_var 0) (SimE.p (sim_var 2)))))
theorem sim_train_by : SimFn false F_train_by G_train_by := simF_def rfl
  (sim_ret (sim_n w_tup (sim_cons (sim_call (n := 2) (m := 0) (pm := [0, 1]) (dds := []) (np := 2) sim_lowest (sim_cons (sim_2 w_ix (sim_var 0) (SimE.p sim_c)) (sim_cons (sim_2 w_ix (sim_var 0) (SimE.p (sim_1 w_neg (SimE.p sim_c)))) sim_nil))) (sim_cons (sim_2 w_eq (sim_2 w_mod (sim_n1 w_len (SimE.p (sim_var 0))) (SimE.p sim_c)) (SimE.p sim_c)) sim_nil))))
theorem sim__law_lowest : SimFn false F__law_lowest G__law_lowest := simF_def rfl
  (sim_seq (sim_asg (sim_call (n := 2) (m := 0) (pm := [0, 1]) (dds := []) (np := 2) sim__law_common (sim_cons (sim_var 0) (sim_cons (sim_var 1) sim_nil))) sg_nm)
    (sim_seq (sim_asg (sim_if (sim_tbl (SimE.p (sim_2 (w_cmp _) (sim_var 1) (SimE.p sim_c)))) (sim_var 2) (sim_2 w_sub sim_c (SimE.p (sim_var 2)))) sg_nm)
    (sim_ret (sim_n w_tup (sim_cons (sim_2 w_div (sim_var 0) (SimE.p (sim_var 2))) (sim_cons (sim_2 w_div (sim_var 1) (SimE.p (sim_var 2))) sim_nil))))))
theorem sim__law_turns_back : SimFn false F__law_turns_back G__law_turns_back := simF_def rfl
  (sim_seq (sim_asg sim_c sg_nm)
    (sim_seq (sim_for (sim_iof (sim_var 0)) sg_nm (sim_wp (sim_asg (sim_2 w_div (sim_2 w_mulI (sim_var 1) (SimE.p (sim_var 2))) (SimE.p (sim_call (n := 2) (m := 0) (pm := [0, 1]) (dds := []) (np := 2) sim__law_common (sim_cons (sim_var 1) (sim_cons (sim_var 2) sim_nil))))) sg_nm)))
    (sim_ret (sim_2 w_div (sim_var 1) (SimE.p (sim_2 w_ix (sim_var 0) (SimE.p sim_c)))))))
theorem sim_check_teeth : SimFn false F_check_teeth G_check_teeth := simF_def rfl
  (sim_for (sim_iof (sim_n w_tup (sim_cons (sim_var 0) (sim_cons (sim_var 1) sim_nil)))) sg_nm (sim_wp (sim_sif (sim_tnot (sim_tof (SimE.p (sim_call (n := 3) (m := 0) (pm := [0, 1, 2]) (dds := []) (np := 3) sim_is_between (sim_cons (sim_var 2) (sim_cons sim_c (sim_cons sim_c sim_nil))))))) sim_stuck sim_snil)))
theorem sim_L_wrong_wheel : SimFn false F_L_wrong_wheel G_L_wrong_wheel := simF_def rfl
  (sim_ret (sim_call (n := 3) (m := 0) (pm := [0, 1, 2]) (dds := []) (np := 3) sim_is_between (sim_cons (sim_var 0) (sim_cons sim_c (sim_cons sim_c sim_nil)))))
theorem st_lam : SimTab lt_lam gt_lam := (.cons sim_L_wrong_wheel .nil)
theorem sim_first_wrong : SimFn false F_first_wrong G_first_wrong := simF_def rfl
  (sim_seq (sim_for (sim_ienA (sim_var 0)) (sg_tp (sgs_cons sg_nm (sgs_cons sg_nm sgs_nil))) (sim_wp (sim_sif (sim_tnot (sim_tof (SimE.p (sim_calll st_lam (sim_cons (sim_var 3) (sim_cons (sim_sl (sim_var 0) sim_onone (sim_osome (sim_var 2))) sim_nil)) 1)))) (sim_ret (sim_var 2)) sim_snil)))
    (sim_ret sim_c))
theorem sim_is_hunting : SimFn false F_is_hunting G_is_hunting := simF_def rfl
  (sim_seq (sim_expr (sim_call (n := 2) (m := 0) (pm := [0, 1]) (dds := []) (np := 2) sim_check_teeth (sim_cons (sim_var 0) (sim_cons (sim_var 1) sim_nil))))
    (sim_ret (sim_2 w_eq (sim_n w_gcd (sim_cons (sim_var 0) (sim_cons (sim_var 1) sim_nil))) (SimE.p sim_c))))
theorem sim_wrong_wheel : SimFn false F_wrong_wheel G_wrong_wheel := simF_def rfl
  (sim_ret (sim_call (n := 2) (m := 0) (pm := [0, 1]) (dds := []) (np := 2) sim_first_wrong (sim_cons (sim_var 0) (sim_cons sim_c sim_nil))))
theorem sim_check_train : SimFn false F_check_train G_check_train := simF_def rfl
  (sim_seq (sim_sif (sim_tnot (sim_tof (SimE.p (sim_call (n := 3) (m := 0) (pm := [0, 1, 2]) (dds := []) (np := 3) sim_is_row (sim_cons (sim_var 0) (sim_cons sim_c (sim_cons sim_c sim_nil))))))) sim_stuck sim_snil)
    (sim_seq (sim_asg (sim_call (n := 1) (m := 0) (pm := [0]) (dds := []) (np := 1) sim_wrong_wheel (sim_cons (sim_var 0) sim_nil)) sg_nm)
    (sim_sif (sim_tbl (SimE.p (sim_2 w_isnot (sim_var 1) (SimE.p sim_c)))) sim_stuck sim_snil)))
theorem sim_train : SimFn false F_train G_train := simF_def rfl
  (sim_seq (sim_expr (sim_call (n := 1) (m := 0) (pm := [0]) (dds := []) (np := 1) sim_check_train (sim_cons (sim_var 0) sim_nil)))
    (sim_ret (sim_call (n := 1) (m := 0) (pm := [0]) (dds := []) (np := 1) sim_train_by (sim_cons (sim_var 0) sim_nil))))
theorem sim_turns_back : SimFn false F_turns_back G_turns_back := simF_def rfl
  (sim_seq (sim_expr (sim_call (n := 1) (m := 0) (pm := [0]) (dds := []) (np := 1) sim_check_train (sim_cons (sim_var 0) sim_nil)))
    (sim_ret (sim_call (n := 1) (m := 0) (pm := [0]) (dds := []) (np := 1) sim_back_by (sim_cons (sim_var 0) sim_nil))))
theorem sim__law_right : SimFn false F__law_right G__law_right := simF_def rfl
  (sim_seq (sim_asg (sim_gc (sim_n1 w_tuple (SimE.p (fr_lc (vs := [7]) (sim_iN w_rng1 (sim_cons (sim_2 w_add sim_c (SimE.p (sim_callIo (i := 0) (n := 1) (pm := [0]) sim__law_take (sim_cons sim_c sim_nil)))) sim_nil)) sg_nm sim_tyes (sim_2 w_add sim_c (SimE.p (sim_callIo (i := 0) (n := 1) (pm := [0]) sim__law_take (sim_cons sim_c sim_nil))))).e))) sg_nm)
    (sim_seq (sim_asg (sim_n w_tup (sim_cons (sim_call (n := 2) (m := 0) (pm := [0, 1]) (dds := []) (np := 2) sim__law_lowest (sim_cons (sim_2 w_ix (sim_var 1) (SimE.p sim_c)) (sim_cons (sim_2 w_ix (sim_var 1) (SimE.p (sim_1 w_neg (SimE.p sim_c)))) sim_nil))) (sim_cons (sim_2 w_eq (sim_2 w_mod (sim_n1 w_int (SimE.p (sim_n1 w_len (SimE.p (sim_var 1))))) (SimE.p sim_c)) (SimE.p sim_c)) sim_nil))) sg_nm)
    (sim_seq (sim_sif (sim_tor (sim_tbl (SimE.p (sim_2 w_ne (sim_gc (sim_n1 w_repr (SimE.p (fr_n w_lst (sim_cons (sim_call (n := 1) (m := 0) (pm := [0]) (dds := []) (np := 1) sim_train (sim_cons (sim_var 1) sim_nil)) (sim_cons (sim_call (n := 0) (m := 1) (pm := [0]) (dds := []) (np := 1) sim_train (sim_cons (sim_var 1) sim_nil)) sim_nil))).e))) (SimE.p (sim_gc (sim_n1 w_repr (SimE.p (fr_n w_lst (sim_cons (sim_var 2) (sim_cons (sim_var 2) sim_nil))).e))))))) (sim_tbl (SimE.p (sim_2 w_ne (sim_call (n := 1) (m := 0) (pm := [0]) (dds := []) (np := 1) sim_train (sim_cons (sim_1 w_revA (SimE.p (sim_var 1))) sim_nil)) (SimE.p (sim_n w_tup (sim_cons (sim_1 w_revA (SimE.p (sim_2 w_ix (sim_var 2) (SimE.p sim_c)))) (sim_cons (sim_2 w_ix (sim_var 2) (SimE.p sim_c)) sim_nil)))))))) (sim_ret sim_c) sim_snil)
    (sim_seq (sim_asg (sim_call (n := 1) (m := 0) (pm := [0]) (dds := []) (np := 1) sim__law_turns_back (sim_cons (sim_var 1) sim_nil)) sg_nm)
    (sim_seq (sim_sif (sim_tbl (SimE.p (sim_2 w_ne (sim_gc (sim_n1 w_repr (SimE.p (fr_n w_lst (sim_cons (sim_call (n := 1) (m := 0) (pm := [0]) (dds := []) (np := 1) sim_turns_back (sim_cons (sim_var 1) sim_nil)) (sim_cons (sim_call (n := 0) (m := 1) (pm := [0]) (dds := []) (np := 1) sim_turns_back (sim_cons (sim_var 1) sim_nil)) sim_nil))).e))) (SimE.p (sim_gc (sim_n1 w_repr (SimE.p (fr_n w_lst (sim_cons (sim_var 3) (sim_cons (sim_var 3) sim_nil))).e))))))) (sim_ret sim_c) sim_snil)
    (sim_seq (sim_sif (sim_tbl (SimE.p (sim_2 w_ne (fr_lc (vs := [8]) (sim_iof (sim_var 1)) sg_nm (sim_tbl (SimE.p (sim_2 w_ne (sim_2 w_mod (sim_n1 w_int (SimE.p (sim_2 w_mulI (sim_var 3) (SimE.p (sim_2 w_ix (sim_var 1) (SimE.p sim_c)))))) (SimE.p (sim_var 8))) (SimE.p sim_c)))) (sim_var 8)).e (SimE.p (fr_n w_lst sim_nil).e)))) (sim_ret sim_c) sim_snil)
    (sim_seq (sim_par2 (sim_cons (sim_2 w_ix (sim_var 1) (SimE.p sim_c)) (sim_cons (sim_2 w_ix (sim_var 1) (SimE.p sim_c)) sim_nil)))
    (sim_seq (sim_asg (sim_2 w_eq (sim_call (n := 2) (m := 0) (pm := [0, 1]) (dds := []) (np := 2) sim__law_common (sim_cons (sim_var 5) (sim_cons (sim_var 6) sim_nil))) (SimE.p sim_c)) sg_nm)
    (sim_seq (sim_sif (sim_tbl (SimE.p (sim_2 w_ne (sim_gc (sim_n1 w_repr (SimE.p (fr_n w_lst (sim_cons (sim_call (n := 2) (m := 0) (pm := [0, 1]) (dds := []) (np := 2) sim_is_hunting (sim_cons (sim_var 5) (sim_cons (sim_var 6) sim_nil))) (sim_cons (sim_call (n := 0) (m := 2) (pm := [1, 0]) (dds := []) (np := 2) sim_is_hunting (sim_cons (sim_var 6) (sim_cons (sim_var 5) sim_nil))) (sim_cons (sim_call (n := 2) (m := 0) (pm := [0, 1]) (dds := []) (np := 2) sim_is_hunting (sim_cons (sim_var 6) (sim_cons (sim_var 5) sim_nil))) sim_nil)))).e))) (SimE.p (sim_n1 w_repr (SimE.p (sim_2 w_mulA (fr_n w_lst (sim_cons (sim_var 4) sim_nil)).e (SimE.p sim_c)))))))) (sim_ret sim_c) sim_snil)
    (sim_ret (sim_and (sim_2 w_eq (sim_var 4) (SimE.p (sim_2 w_eq (sim_call (n := 1) (m := 0) (pm := [0]) (dds := []) (np := 1) sim_turns_back (sim_cons (sim_n w_tup (sim_cons (sim_var 5) (sim_cons (sim_var 6) sim_nil))) sim_nil)) (SimE.p (sim_var 6))))) (sim_2 w_eq (sim_2 w_mulI (sim_call (n := 1) (m := 0) (pm := [0]) (dds := []) (np := 1) sim_turns_back (sim_cons (sim_1 w_revA (SimE.p (sim_var 1))) sim_nil)) (SimE.p (sim_2 w_ix (sim_var 1) (SimE.p (sim_1 w_neg (SimE.p sim_c)))))) (SimE.p (sim_2 w_mulI (sim_var 3) (SimE.p (sim_2 w_ix (sim_var 1) (SimE.p sim_c)))))))))))))))))
theorem sim_law : SimFn false F_law G_law := simF_def rfl
  (sim_seq (sim_for (sim_iN w_rng1 (sim_cons (sim_n w_max2 (sim_cons sim_c (sim_cons (sim_n w_min2 (sim_cons (sim_n1 w_len (SimE.p (sim_var 0))) (sim_cons sim_c sim_nil))) sim_nil))) sim_nil)) sg_nm (sim_wp (sim_seq (sim_asgO (fr_call (n := 2) (m := 0) (pm := [0, 1]) (dds := []) (np := 2) sim__law_bag (sim_cons (sim_var 0) (sim_cons (sim_var 1) sim_nil))))
    (sim_sif (sim_tnot (sim_tof (SimE.p (sim_gc (sim_n1 w_all (SimE.p (fr_lc (vs := [3]) (sim_iN w_rng1 (sim_cons sim_c sim_nil)) sg_nm sim_tyes (sim_callIo (i := 2) (n := 0) (pm := []) sim__law_right sim_nil)).e)))))) (sim_ret sim_c) sim_snil))))
    (sim_ret sim_c))
end Lw

namespace Lw
open PySem PySem.Spec PyProof.Rows L2 Fz
theorem is_whole_i (i : Int) : G_is_whole [.vl (.int i)] = .ok (.bl true) [.no] := gsat_eq (by
  unfold G_is_whole g_is_whole
  simp -implicitDefEqProofs only [Fz.x_ok, Fz.x_stuck, Fz.x_exc, Fz.x_ite, Fz.x_bind, Fz.x_fl, Fz.x_fl0, Fz.x_fite, Fz.x_nx, Fz.x_rt, Fz.x_fst, Fz.x_opt, Fz.x_nil, Fz.x_seq, Fz.x_expr, Fz.x_ret, Fz.x_retN, Fz.x_brk, Fz.x_cnt, Fz.x_qstuck, Fz.x_if, Fz.x_asg, Fz.x_tg, Fz.x_tgn, Fz.x_asgO, Fz.x_co, Fz.x_par2, Fz.x_par3, Fz.x_panil, Fz.x_paE, Fz.x_paF, Fz.x_parO2, Fz.x_parO3, Fz.x_p2, Fz.x_p3, Fz.x_set, Fz.x_setQ, Fz.x_wp, Fz.x_pre, Fz.x_wipe0, Fz.x_wipeS, Fz.x_tnm, Fz.x_tsnil, Fz.x_tscons, Fz.x_ttp, Fz.x_ttl, Fz.x_ttlT, Fz.x_tsb, Fz.x_var, Fz.x_slV, Fz.x_slO, Fz.x_pk, Fz.x_pkV, Fz.x_pkO, Fz.x_c, Fz.x_1, Fz.x_2, Fz.x_2k, Fz.x_n, Fz.x_n1, Fz.x_eif, Fz.x_and, Fz.x_or, Fz.x_not, Fz.x_ch, Fz.x_sl, Fz.x_slL, Fz.x_slk, Fz.x_onone, Fz.x_osome, Fz.x_inO, Fz.x_m, Fz.x_app, Fz.x_ow, Fz.x_anil, Fz.x_acons, Fz.x_astar, Fz.x_aapp, Fz.x_tru, Fz.x_tbl, Fz.x_tnot, Fz.x_tand, Fz.x_tor, Fz.x_tyes, Fz.x_blO, Fz.x_ubl, Fz.x_uint, Fz.x_unon, Fz.x_utup, Fz.x_ulsv, Fz.x_call, Fz.x_oc, Fz.x_io, Fz.x_put, Fz.x_perm0, Fz.x_def, Fz.x_defF, Fz.x_outs0, Fz.x_outsT, Fz.x_outsF, Fz.x_for, Fz.x_iof, Fz.x_ien, Fz.x_iN, Fz.x_srcT, Fz.x_srcF, Fz.x_srcL, Fz.x_srcS, Fz.x_zip, Fz.x_zipT, Fz.x_en, Fz.x_lc, Fz.x_rest0, Fz.x_restS, Fz.x_rsV, Fz.x_rsN, Fz.x_rsO, Fz.x_some, Fz.x_map, Fz.x_obind, Fz.x_mul, Fz.x_sub, Fz.x_div, Fz.x_mod, Fz.x_pow, Fz.x_shl, Fz.x_shr, Fz.x_andI, Fz.x_cmp, Fz.x_neg, Fz.x_addI, Fz.x_addS, Fz.x_addT, Fz.x_addL, Fz.x_addLL, Fz.x_mulAI, Fz.x_mulAC, Fz.x_mulAL, Fz.x_mulLL, Fz.x_tup, Fz.x_lst, Fz.x_abs, Fz.x_max2, Fz.x_min2, Fz.x_gcd, Fz.x_intI, Fz.x_intB, Fz.x_dm, Fz.x_lenS, Fz.x_lenT, Fz.x_lenF, Fz.x_lenL, Fz.x_ixT, Fz.x_ixF, Fz.x_ixL, Fz.x_ixS, Fz.x_slT, Fz.x_slF, Fz.x_slLs, Fz.x_slS, Fz.x_slLF, Fz.x_slLL, Fz.x_revS, Fz.x_revL, Fz.x_tupleT, Fz.x_tupleF, Fz.x_tupleL, Fz.x_listT, Fz.x_listF, Fz.x_listL, Fz.x_sumL, Fz.x_sumT, Fz.x_sumF, Fz.x_all, Fz.x_any, Fz.x_r1, Fz.x_r2, Fz.x_r3, Fz.x_lr, Fz.x_join, Fz.x_tyS, Fz.x_tyL, Fz.x_eqQ, Fz.x_eqS, Fz.x_neS, Fz.x_eqI, Fz.x_neI, Fz.x_eqB, Fz.x_neB, Fz.x_eqT, Fz.x_neT, Fz.x_eqL, Fz.x_neL, Fz.x_pyI, Fz.x_pyS, Fz.x_pyB, Fz.x_pyN, Fz.x_pyT, Fz.x_pyF, Fz.x_pyL, Fz.x_mp0, Fz.x_mpC, Fz.x_mpO, Fz.x_omap, Fz.x_repr, Fz.x_rp, Fz.x_pyfr, Fz.x_mpfr, Fz.x_mpint, Fz.x_isN, Fz.x_isI, Fz.x_isS, Fz.x_isT, Fz.x_isL, Fz.x_isB, Fz.x_isBB, Fz.x_isfr, Fz.x_inC, Fz.x_ninC, Fz.x_isi1, Fz.x_isi2, Fz.x_isi3, Fz.x_isi4, Fz.x_isi5, Fz.x_isi6, Fz.x_isi7, Fz.x_isi8, Fz.x_isi9, Fz.x_isi10, Fz.x_isi11, Fz.x_isi12, Fz.x_isi13, Fz.x_isi14, Fz.x_isi15, Fz.x_isi16, Fz.x_isi17, Fz.x_isi18, Fz.x_isi19, Fz.x_isi20, Fz.x_ttpf, Fz.x_ixfr0, Fz.x_ixfr1, Fz.x_lenfr, Fz.x_itfr, Fz.x_itT, Fz.x_itL, Fz.x_srcfr, Fz.x_eqfr, Fz.x_nefr, Fz.x_ufr, Fz.x_ll, Fz.x_calll, Fz.x_ienA, Fz.x_enA, Fz.x_enT, Fz.x_rvT, Fz.x_rvS, Fz.x_rvL, Fz.x_rvF, Fz.x_lcm, Fz.if_false', Fz.if_true', Fz.optQ_some, Fz.atI_0, Fz.atI_1, Fz.atI_n, Fz.ixN_0, Fz.ixN_1, Fz.ixN_n, List.set_cons_succ, List.set_cons_zero, List.getElem?_cons_succ, List.getElem?_cons_zero, List.length_cons, List.length_nil, List.map_cons, List.map_nil, List.replicate_succ, List.replicate_zero, List.cons_append, List.nil_append, List.append_assoc, List.append_nil, Fz.permL, List.filterMap_cons, List.filterMap_nil, List.length_set, List.set_set, Nat.reduceAdd, Nat.reduceLT, Nat.reduceLeDiff, Nat.reduceSub, Nat.reduceEqDiff, Int.reduceAdd, Int.reduceToNat, Int.reducePow, decide_eq_true_eq, if_true, if_false, ite_true, ite_false, true_and, and_true, not_false_eq_true, not_true_eq_false, false_and, and_false, Bool.false_eq_true, Bool.true_eq_false, Bool.not_true, Bool.not_false, Fz.cutD_map, Fz.ints_int, List.flatten_cons, List.flatten_nil, Nat.add_assoc, Fz.LINE, Fz.b62, and_assoc, List.all_cons, List.all_nil, Nat.le_refl, Option.map_some, List.cons_beq_cons, Nat.reduceBEq, Nat.reduceBNe, Bool.and_true, Bool.true_and, Bool.false_and, Bool.and_false, beq_self_eq_true, Bool.or_true, Bool.true_or, Bool.or_false, Bool.false_or, Fz.bls_map, List.length_append, List.length_map, List.length_take, List.length_drop, List.length_reverse, List.length_replicate, List.length_range, List.isEmpty_cons, List.isEmpty_nil, Int.reduceNeg, Int.reduceMul, Int.reduceSub, Int.reduceLT, Int.reduceLE, Int.reduceBEq, Int.reduceBNe, Int.reduceNe, Int.reduceEq, decide_true, decide_false, id, List.getElem?_nil, beq_iff_eq, bne_iff_ne, ne_eq, Bool.not_eq_true', Bool.and_eq_true, Bool.or_eq_true, beq_eq_false_iff_ne, Bool.not_eq_false', decide_eq_false_iff_not, Int.not_lt, Int.not_le])
theorem is_between_i (i a b : Int) : G_is_between [.vl (.int i), .vl (.int a), .vl (.int b)] = .ok (.bl (decide (a ≤ i) && decide (i ≤ b))) [.no, .no, .no] := gsat_eq (by
  unfold G_is_between g_is_between
  simp -implicitDefEqProofs only [Fz.x_ok, Fz.x_stuck, Fz.x_exc, Fz.x_ite, Fz.x_bind, Fz.x_fl, Fz.x_fl0, Fz.x_fite, Fz.x_nx, Fz.x_rt, Fz.x_fst, Fz.x_opt, Fz.x_nil, Fz.x_seq, Fz.x_expr, Fz.x_ret, Fz.x_retN, Fz.x_brk, Fz.x_cnt, Fz.x_qstuck, Fz.x_if, Fz.x_asg, Fz.x_tg, Fz.x_tgn, Fz.x_asgO, Fz.x_co, Fz.x_par2, Fz.x_par3, Fz.x_panil, Fz.x_paE, Fz.x_paF, Fz.x_parO2, Fz.x_parO3, Fz.x_p2, Fz.x_p3, Fz.x_set, Fz.x_setQ, Fz.x_wp, Fz.x_pre, Fz.x_wipe0, Fz.x_wipeS, Fz.x_tnm, Fz.x_tsnil, Fz.x_tscons, Fz.x_ttp, Fz.x_ttl, Fz.x_ttlT, Fz.x_tsb, Fz.x_var, Fz.x_slV, Fz.x_slO, Fz.x_pk, Fz.x_pkV, Fz.x_pkO, Fz.x_c, Fz.x_1, Fz.x_2, Fz.x_2k, Fz.x_n, Fz.x_n1, Fz.x_eif, Fz.x_and, Fz.x_or, Fz.x_not, Fz.x_ch, Fz.x_sl, Fz.x_slL, Fz.x_slk, Fz.x_onone, Fz.x_osome, Fz.x_inO, Fz.x_m, Fz.x_app, Fz.x_ow, Fz.x_anil, Fz.x_acons, Fz.x_astar, Fz.x_aapp, Fz.x_tru, Fz.x_tbl, Fz.x_tnot, Fz.x_tand, Fz.x_tor, Fz.x_tyes, Fz.x_blO, Fz.x_ubl, Fz.x_uint, Fz.x_unon, Fz.x_utup, Fz.x_ulsv, Fz.x_call, Fz.x_oc, Fz.x_io, Fz.x_put, Fz.x_perm0, Fz.x_def, Fz.x_defF, Fz.x_outs0, Fz.x_outsT, Fz.x_outsF, Fz.x_for, Fz.x_iof, Fz.x_ien, Fz.x_iN, Fz.x_srcT, Fz.x_srcF, Fz.x_srcL, Fz.x_srcS, Fz.x_zip, Fz.x_zipT, Fz.x_en, Fz.x_lc, Fz.x_rest0, Fz.x_restS, Fz.x_rsV, Fz.x_rsN, Fz.x_rsO, Fz.x_some, Fz.x_map, Fz.x_obind, Fz.x_mul, Fz.x_sub, Fz.x_div, Fz.x_mod, Fz.x_pow, Fz.x_shl, Fz.x_shr, Fz.x_andI, Fz.x_cmp, Fz.x_neg, Fz.x_addI, Fz.x_addS, Fz.x_addT, Fz.x_addL, Fz.x_addLL, Fz.x_mulAI, Fz.x_mulAC, Fz.x_mulAL, Fz.x_mulLL, Fz.x_tup, Fz.x_lst, Fz.x_abs, Fz.x_max2, Fz.x_min2, Fz.x_gcd, Fz.x_intI, Fz.x_intB, Fz.x_dm, Fz.x_lenS, Fz.x_lenT, Fz.x_lenF, Fz.x_lenL, Fz.x_ixT, Fz.x_ixF, Fz.x_ixL, Fz.x_ixS, Fz.x_slT, Fz.x_slF, Fz.x_slLs, Fz.x_slS, Fz.x_slLF, Fz.x_slLL, Fz.x_revS, Fz.x_revL, Fz.x_tupleT, Fz.x_tupleF, Fz.x_tupleL, Fz.x_listT, Fz.x_listF, Fz.x_listL, Fz.x_sumL, Fz.x_sumT, Fz.x_sumF, Fz.x_all, Fz.x_any, Fz.x_r1, Fz.x_r2, Fz.x_r3, Fz.x_lr, Fz.x_join, Fz.x_tyS, Fz.x_tyL, Fz.x_eqQ, Fz.x_eqS, Fz.x_neS, Fz.x_eqI, Fz.x_neI, Fz.x_eqB, Fz.x_neB, Fz.x_eqT, Fz.x_neT, Fz.x_eqL, Fz.x_neL, Fz.x_pyI, Fz.x_pyS, Fz.x_pyB, Fz.x_pyN, Fz.x_pyT, Fz.x_pyF, Fz.x_pyL, Fz.x_mp0, Fz.x_mpC, Fz.x_mpO, Fz.x_omap, Fz.x_repr, Fz.x_rp, Fz.x_pyfr, Fz.x_mpfr, Fz.x_mpint, Fz.x_isN, Fz.x_isI, Fz.x_isS, Fz.x_isT, Fz.x_isL, Fz.x_isB, Fz.x_isBB, Fz.x_isfr, Fz.x_inC, Fz.x_ninC, Fz.x_isi1, Fz.x_isi2, Fz.x_isi3, Fz.x_isi4, Fz.x_isi5, Fz.x_isi6, Fz.x_isi7, Fz.x_isi8, Fz.x_isi9, Fz.x_isi10, Fz.x_isi11, Fz.x_isi12, Fz.x_isi13, Fz.x_isi14, Fz.x_isi15, Fz.x_isi16, Fz.x_isi17, Fz.x_isi18, Fz.x_isi19, Fz.x_isi20, Fz.x_ttpf, Fz.x_ixfr0, Fz.x_ixfr1, Fz.x_lenfr, Fz.x_itfr, Fz.x_itT, Fz.x_itL, Fz.x_srcfr, Fz.x_eqfr, Fz.x_nefr, Fz.x_ufr, Fz.x_ll, Fz.x_calll, Fz.x_ienA, Fz.x_enA, Fz.x_enT, Fz.x_rvT, Fz.x_rvS, Fz.x_rvL, Fz.x_rvF, Fz.x_lcm, Fz.if_false', Fz.if_true', Fz.optQ_some, Fz.atI_0, Fz.atI_1, Fz.atI_n, Fz.ixN_0, Fz.ixN_1, Fz.ixN_n, List.set_cons_succ, List.set_cons_zero, List.getElem?_cons_succ, List.getElem?_cons_zero, List.length_cons, List.length_nil, List.map_cons, List.map_nil, List.replicate_succ, List.replicate_zero, List.cons_append, List.nil_append, List.append_assoc, List.append_nil, Fz.permL, List.filterMap_cons, List.filterMap_nil, List.length_set, List.set_set, Nat.reduceAdd, Nat.reduceLT, Nat.reduceLeDiff, Nat.reduceSub, Nat.reduceEqDiff, Int.reduceAdd, Int.reduceToNat, Int.reducePow, decide_eq_true_eq, if_true, if_false, ite_true, ite_false, true_and, and_true, not_false_eq_true, not_true_eq_false, false_and, and_false, Bool.false_eq_true, Bool.true_eq_false, Bool.not_true, Bool.not_false, Fz.cutD_map, Fz.ints_int, List.flatten_cons, List.flatten_nil, Nat.add_assoc, Fz.LINE, Fz.b62, and_assoc, List.all_cons, List.all_nil, Nat.le_refl, Option.map_some, List.cons_beq_cons, Nat.reduceBEq, Nat.reduceBNe, Bool.and_true, Bool.true_and, Bool.false_and, Bool.and_false, beq_self_eq_true, Bool.or_true, Bool.true_or, Bool.or_false, Bool.false_or, Fz.bls_map, List.length_append, List.length_map, List.length_take, List.length_drop, List.length_reverse, List.length_replicate, List.length_range, List.isEmpty_cons, List.isEmpty_nil, Int.reduceNeg, Int.reduceMul, Int.reduceSub, Int.reduceLT, Int.reduceLE, Int.reduceBEq, Int.reduceBNe, Int.reduceNe, Int.reduceEq, decide_true, decide_false, id, List.getElem?_nil, beq_iff_eq, bne_iff_ne, ne_eq, Bool.not_eq_true', Bool.and_eq_true, Bool.or_eq_true, beq_eq_false_iff_ne, Bool.not_eq_false', decide_eq_false_iff_not, Int.not_lt, Int.not_le, is_whole_i]
  by_cases h : a ≤ i <;> simp [h])
theorem lowest_eq {a b : Int} {m : Nat} (hb : 0 < b) (h : Bd m b) (hm : 0 < m ∧ m < 9000 := by decide) : G_lowest [.vl (.int a), .vl (.int b)] = .ok (fr (red a b)) [.no, .no] := gsat_eq (by
  have d := Bd.div (gI_bd (a := a) hb h) (gI_pos hb) hm
  unfold G_lowest g_lowest
  simp -implicitDefEqProofs only [Fz.x_ok, Fz.x_stuck, Fz.x_exc, Fz.x_ite, Fz.x_bind, Fz.x_fl, Fz.x_fl0, Fz.x_fite, Fz.x_nx, Fz.x_rt, Fz.x_fst, Fz.x_opt, Fz.x_nil, Fz.x_seq, Fz.x_expr, Fz.x_ret, Fz.x_retN, Fz.x_brk, Fz.x_cnt, Fz.x_qstuck, Fz.x_if, Fz.x_asg, Fz.x_tg, Fz.x_tgn, Fz.x_asgO, Fz.x_co, Fz.x_par2, Fz.x_par3, Fz.x_panil, Fz.x_paE, Fz.x_paF, Fz.x_parO2, Fz.x_parO3, Fz.x_p2, Fz.x_p3, Fz.x_set, Fz.x_setQ, Fz.x_wp, Fz.x_pre, Fz.x_wipe0, Fz.x_wipeS, Fz.x_tnm, Fz.x_tsnil, Fz.x_tscons, Fz.x_ttp, Fz.x_ttl, Fz.x_ttlT, Fz.x_tsb, Fz.x_var, Fz.x_slV, Fz.x_slO, Fz.x_pk, Fz.x_pkV, Fz.x_pkO, Fz.x_c, Fz.x_1, Fz.x_2, Fz.x_2k, Fz.x_n, Fz.x_n1, Fz.x_eif, Fz.x_and, Fz.x_or, Fz.x_not, Fz.x_ch, Fz.x_sl, Fz.x_slL, Fz.x_slk, Fz.x_onone, Fz.x_osome, Fz.x_inO, Fz.x_m, Fz.x_app, Fz.x_ow, Fz.x_anil, Fz.x_acons, Fz.x_astar, Fz.x_aapp, Fz.x_tru, Fz.x_tbl, Fz.x_tnot, Fz.x_tand, Fz.x_tor, Fz.x_tyes, Fz.x_blO, Fz.x_ubl, Fz.x_uint, Fz.x_unon, Fz.x_utup, Fz.x_ulsv, Fz.x_call, Fz.x_oc, Fz.x_io, Fz.x_put, Fz.x_perm0, Fz.x_def, Fz.x_defF, Fz.x_outs0, Fz.x_outsT, Fz.x_outsF, Fz.x_for, Fz.x_iof, Fz.x_ien, Fz.x_iN, Fz.x_srcT, Fz.x_srcF, Fz.x_srcL, Fz.x_srcS, Fz.x_zip, Fz.x_zipT, Fz.x_en, Fz.x_lc, Fz.x_rest0, Fz.x_restS, Fz.x_rsV, Fz.x_rsN, Fz.x_rsO, Fz.x_some, Fz.x_map, Fz.x_obind, Fz.x_mul, Fz.x_sub, Fz.x_div, Fz.x_mod, Fz.x_pow, Fz.x_shl, Fz.x_shr, Fz.x_andI, Fz.x_cmp, Fz.x_neg, Fz.x_addI, Fz.x_addS, Fz.x_addT, Fz.x_addL, Fz.x_addLL, Fz.x_mulAI, Fz.x_mulAC, Fz.x_mulAL, Fz.x_mulLL, Fz.x_tup, Fz.x_lst, Fz.x_abs, Fz.x_max2, Fz.x_min2, Fz.x_gcd, Fz.x_intI, Fz.x_intB, Fz.x_dm, Fz.x_lenS, Fz.x_lenT, Fz.x_lenF, Fz.x_lenL, Fz.x_ixT, Fz.x_ixF, Fz.x_ixL, Fz.x_ixS, Fz.x_slT, Fz.x_slF, Fz.x_slLs, Fz.x_slS, Fz.x_slLF, Fz.x_slLL, Fz.x_revS, Fz.x_revL, Fz.x_tupleT, Fz.x_tupleF, Fz.x_tupleL, Fz.x_listT, Fz.x_listF, Fz.x_listL, Fz.x_sumL, Fz.x_sumT, Fz.x_sumF, Fz.x_all, Fz.x_any, Fz.x_r1, Fz.x_r2, Fz.x_r3, Fz.x_lr, Fz.x_join, Fz.x_tyS, Fz.x_tyL, Fz.x_eqQ, Fz.x_eqS, Fz.x_neS, Fz.x_eqI, Fz.x_neI, Fz.x_eqB, Fz.x_neB, Fz.x_eqT, Fz.x_neT, Fz.x_eqL, Fz.x_neL, Fz.x_pyI, Fz.x_pyS, Fz.x_pyB, Fz.x_pyN, Fz.x_pyT, Fz.x_pyF, Fz.x_pyL, Fz.x_mp0, Fz.x_mpC, Fz.x_mpO, Fz.x_omap, Fz.x_repr, Fz.x_rp, Fz.x_pyfr, Fz.x_mpfr, Fz.x_mpint, Fz.x_isN, Fz.x_isI, Fz.x_isS, Fz.x_isT, Fz.x_isL, Fz.x_isB, Fz.x_isBB, Fz.x_isfr, Fz.x_inC, Fz.x_ninC, Fz.x_isi1, Fz.x_isi2, Fz.x_isi3, Fz.x_isi4, Fz.x_isi5, Fz.x_isi6, Fz.x_isi7, Fz.x_isi8, Fz.x_isi9, Fz.x_isi10, Fz.x_isi11, Fz.x_isi12, Fz.x_isi13, Fz.x_isi14, Fz.x_isi15, Fz.x_isi16, Fz.x_isi17, Fz.x_isi18, Fz.x_isi19, Fz.x_isi20, Fz.x_ttpf, Fz.x_ixfr0, Fz.x_ixfr1, Fz.x_lenfr, Fz.x_itfr, Fz.x_itT, Fz.x_itL, Fz.x_srcfr, Fz.x_eqfr, Fz.x_nefr, Fz.x_ufr, Fz.x_ll, Fz.x_calll, Fz.x_ienA, Fz.x_enA, Fz.x_enT, Fz.x_rvT, Fz.x_rvS, Fz.x_rvL, Fz.x_rvF, Fz.x_lcm, Fz.if_false', Fz.if_true', Fz.optQ_some, Fz.atI_0, Fz.atI_1, Fz.atI_n, Fz.ixN_0, Fz.ixN_1, Fz.ixN_n, List.set_cons_succ, List.set_cons_zero, List.getElem?_cons_succ, List.getElem?_cons_zero, List.length_cons, List.length_nil, List.map_cons, List.map_nil, List.replicate_succ, List.replicate_zero, List.cons_append, List.nil_append, List.append_assoc, List.append_nil, Fz.permL, List.filterMap_cons, List.filterMap_nil, List.length_set, List.set_set, Nat.reduceAdd, Nat.reduceLT, Nat.reduceLeDiff, Nat.reduceSub, Nat.reduceEqDiff, Int.reduceAdd, Int.reduceToNat, Int.reducePow, decide_eq_true_eq, if_true, if_false, ite_true, ite_false, true_and, and_true, not_false_eq_true, not_true_eq_false, false_and, and_false, Bool.false_eq_true, Bool.true_eq_false, Bool.not_true, Bool.not_false, Fz.cutD_map, Fz.ints_int, List.flatten_cons, List.flatten_nil, Nat.add_assoc, Fz.LINE, Fz.b62, and_assoc, List.all_cons, List.all_nil, Nat.le_refl, Option.map_some, List.cons_beq_cons, Nat.reduceBEq, Nat.reduceBNe, Bool.and_true, Bool.true_and, Bool.false_and, Bool.and_false, beq_self_eq_true, Bool.or_true, Bool.true_or, Bool.or_false, Bool.false_or, Fz.bls_map, List.length_append, List.length_map, List.length_take, List.length_drop, List.length_reverse, List.length_replicate, List.length_range, List.isEmpty_cons, List.isEmpty_nil, Int.reduceNeg, Int.reduceMul, Int.reduceSub, Int.reduceLT, Int.reduceLE, Int.reduceBEq, Int.reduceBNe, Int.reduceNe, Int.reduceEq, decide_true, decide_false, id, List.getElem?_nil, beq_iff_eq, bne_iff_ne, ne_eq, Bool.not_eq_true', Bool.and_eq_true, Bool.or_eq_true, beq_eq_false_iff_ne, Bool.not_eq_false', decide_eq_false_iff_not, Int.not_lt, Int.not_le, hb]
  exact ⟨d, d, rfl⟩)
theorem common_eq {a b : Int} (h : Bd 64 b) : G__law_common [.vl (.int a), .vl (.int b)] = .ok (.int (gI a b)) [.no, .no] := gsat_eq (by
  unfold G__law_common g__law_common
  simp -implicitDefEqProofs only [Fz.x_ok, Fz.x_stuck, Fz.x_exc, Fz.x_ite, Fz.x_bind, Fz.x_fl, Fz.x_fl0, Fz.x_fite, Fz.x_nx, Fz.x_rt, Fz.x_fst, Fz.x_opt, Fz.x_nil, Fz.x_seq, Fz.x_expr, Fz.x_ret, Fz.x_retN, Fz.x_brk, Fz.x_cnt, Fz.x_qstuck, Fz.x_if, Fz.x_asg, Fz.x_tg, Fz.x_tgn, Fz.x_asgO, Fz.x_co, Fz.x_par2, Fz.x_par3, Fz.x_panil, Fz.x_paE, Fz.x_paF, Fz.x_parO2, Fz.x_parO3, Fz.x_p2, Fz.x_p3, Fz.x_set, Fz.x_setQ, Fz.x_wp, Fz.x_pre, Fz.x_wipe0, Fz.x_wipeS, Fz.x_tnm, Fz.x_tsnil, Fz.x_tscons, Fz.x_ttp, Fz.x_ttl, Fz.x_ttlT, Fz.x_tsb, Fz.x_var, Fz.x_slV, Fz.x_slO, Fz.x_pk, Fz.x_pkV, Fz.x_pkO, Fz.x_c, Fz.x_1, Fz.x_2, Fz.x_2k, Fz.x_n, Fz.x_n1, Fz.x_eif, Fz.x_and, Fz.x_or, Fz.x_not, Fz.x_ch, Fz.x_sl, Fz.x_slL, Fz.x_slk, Fz.x_onone, Fz.x_osome, Fz.x_inO, Fz.x_m, Fz.x_app, Fz.x_ow, Fz.x_anil, Fz.x_acons, Fz.x_astar, Fz.x_aapp, Fz.x_tru, Fz.x_tbl, Fz.x_tnot, Fz.x_tand, Fz.x_tor, Fz.x_tyes, Fz.x_blO, Fz.x_ubl, Fz.x_uint, Fz.x_unon, Fz.x_utup, Fz.x_ulsv, Fz.x_call, Fz.x_oc, Fz.x_io, Fz.x_put, Fz.x_perm0, Fz.x_def, Fz.x_defF, Fz.x_outs0, Fz.x_outsT, Fz.x_outsF, Fz.x_for, Fz.x_iof, Fz.x_ien, Fz.x_iN, Fz.x_srcT, Fz.x_srcF, Fz.x_srcL, Fz.x_srcS, Fz.x_zip, Fz.x_zipT, Fz.x_en, Fz.x_lc, Fz.x_rest0, Fz.x_restS, Fz.x_rsV, Fz.x_rsN, Fz.x_rsO, Fz.x_some, Fz.x_map, Fz.x_obind, Fz.x_mul, Fz.x_sub, Fz.x_div, Fz.x_mod, Fz.x_pow, Fz.x_shl, Fz.x_shr, Fz.x_andI, Fz.x_cmp, Fz.x_neg, Fz.x_addI, Fz.x_addS, Fz.x_addT, Fz.x_addL, Fz.x_addLL, Fz.x_mulAI, Fz.x_mulAC, Fz.x_mulAL, Fz.x_mulLL, Fz.x_tup, Fz.x_lst, Fz.x_abs, Fz.x_max2, Fz.x_min2, Fz.x_gcd, Fz.x_intI, Fz.x_intB, Fz.x_dm, Fz.x_lenS, Fz.x_lenT, Fz.x_lenF, Fz.x_lenL, Fz.x_ixT, Fz.x_ixF, Fz.x_ixL, Fz.x_ixS, Fz.x_slT, Fz.x_slF, Fz.x_slLs, Fz.x_slS, Fz.x_slLF, Fz.x_slLL, Fz.x_revS, Fz.x_revL, Fz.x_tupleT, Fz.x_tupleF, Fz.x_tupleL, Fz.x_listT, Fz.x_listF, Fz.x_listL, Fz.x_sumL, Fz.x_sumT, Fz.x_sumF, Fz.x_all, Fz.x_any, Fz.x_r1, Fz.x_r2, Fz.x_r3, Fz.x_lr, Fz.x_join, Fz.x_tyS, Fz.x_tyL, Fz.x_eqQ, Fz.x_eqS, Fz.x_neS, Fz.x_eqI, Fz.x_neI, Fz.x_eqB, Fz.x_neB, Fz.x_eqT, Fz.x_neT, Fz.x_eqL, Fz.x_neL, Fz.x_pyI, Fz.x_pyS, Fz.x_pyB, Fz.x_pyN, Fz.x_pyT, Fz.x_pyF, Fz.x_pyL, Fz.x_mp0, Fz.x_mpC, Fz.x_mpO, Fz.x_omap, Fz.x_repr, Fz.x_rp, Fz.x_pyfr, Fz.x_mpfr, Fz.x_mpint, Fz.x_isN, Fz.x_isI, Fz.x_isS, Fz.x_isT, Fz.x_isL, Fz.x_isB, Fz.x_isBB, Fz.x_isfr, Fz.x_inC, Fz.x_ninC, Fz.x_isi1, Fz.x_isi2, Fz.x_isi3, Fz.x_isi4, Fz.x_isi5, Fz.x_isi6, Fz.x_isi7, Fz.x_isi8, Fz.x_isi9, Fz.x_isi10, Fz.x_isi11, Fz.x_isi12, Fz.x_isi13, Fz.x_isi14, Fz.x_isi15, Fz.x_isi16, Fz.x_isi17, Fz.x_isi18, Fz.x_isi19, Fz.x_isi20, Fz.x_ttpf, Fz.x_ixfr0, Fz.x_ixfr1, Fz.x_lenfr, Fz.x_itfr, Fz.x_itT, Fz.x_itL, Fz.x_srcfr, Fz.x_eqfr, Fz.x_nefr, Fz.x_ufr, Fz.x_ll, Fz.x_calll, Fz.x_ienA, Fz.x_enA, Fz.x_enT, Fz.x_rvT, Fz.x_rvS, Fz.x_rvL, Fz.x_rvF, Fz.x_lcm, Fz.if_false', Fz.if_true', Fz.optQ_some, Fz.atI_0, Fz.atI_1, Fz.atI_n, Fz.ixN_0, Fz.ixN_1, Fz.ixN_n, List.set_cons_succ, List.set_cons_zero, List.getElem?_cons_succ, List.getElem?_cons_zero, List.length_cons, List.length_nil, List.map_cons, List.map_nil, List.replicate_succ, List.replicate_zero, List.cons_append, List.nil_append, List.append_assoc, List.append_nil, Fz.permL, List.filterMap_cons, List.filterMap_nil, List.length_set, List.set_set, Nat.reduceAdd, Nat.reduceLT, Nat.reduceLeDiff, Nat.reduceSub, Nat.reduceEqDiff, Int.reduceAdd, Int.reduceToNat, Int.reducePow, decide_eq_true_eq, if_true, if_false, ite_true, ite_false, true_and, and_true, not_false_eq_true, not_true_eq_false, false_and, and_false, Bool.false_eq_true, Bool.true_eq_false, Bool.not_true, Bool.not_false, Fz.cutD_map, Fz.ints_int, List.flatten_cons, List.flatten_nil, Nat.add_assoc, Fz.LINE, Fz.b62, and_assoc, List.all_cons, List.all_nil, Nat.le_refl, Option.map_some, List.cons_beq_cons, Nat.reduceBEq, Nat.reduceBNe, Bool.and_true, Bool.true_and, Bool.false_and, Bool.and_false, beq_self_eq_true, Bool.or_true, Bool.true_or, Bool.or_false, Bool.false_or, Fz.bls_map, List.length_append, List.length_map, List.length_take, List.length_drop, List.length_reverse, List.length_replicate, List.length_range, List.isEmpty_cons, List.isEmpty_nil, Int.reduceNeg, Int.reduceMul, Int.reduceSub, Int.reduceLT, Int.reduceLE, Int.reduceBEq, Int.reduceBNe, Int.reduceNe, Int.reduceEq, decide_true, decide_false, id, List.getElem?_nil, beq_iff_eq, bne_iff_ne, ne_eq, Bool.not_eq_true', Bool.and_eq_true, Bool.or_eq_true, beq_eq_false_iff_ne, Bool.not_eq_false', decide_eq_false_iff_not, Int.not_lt, Int.not_le]
  refine gwhS (fun s : Int × Int => [.vl (.int s.1), .vl (.int s.2)]) (fun s => 0 ≤ s.1 ∧ 0 ≤ s.2 ∧ gI s.1 s.2 = gI a b ∧ s.2.natAbs < 2 ^ 64) (fun s => s.2.natAbs) (if a < 0 then -a else a, if b < 0 then -b else b) rfl ?_ ?_ ?_
  · unfold Bd at h
    refine ⟨by simp only; split <;> omega, by simp only; split <;> omega, ?_, by simp only; split <;> omega⟩
    unfold gI
    show ((Nat.gcd (if a < 0 then -a else a).natAbs (if b < 0 then -b else b).natAbs : Nat) : Int) = _
    have e1 : (if a < 0 then -a else a).natAbs = a.natAbs := by split <;> omega
    have e2 : (if b < 0 then -b else b).natAbs = b.natAbs := by split <;> omega
    rw [e1, e2]
  · rintro s ⟨-, -, -, h⟩; exact lt_WFk 64 h
  · rintro ⟨x, y⟩ ⟨h1, h2, h3, h4⟩
    by_cases hy : 0 < y
    · simp -implicitDefEqProofs only [Fz.x_ok, Fz.x_stuck, Fz.x_exc, Fz.x_ite, Fz.x_bind, Fz.x_fl, Fz.x_fl0, Fz.x_fite, Fz.x_nx, Fz.x_rt, Fz.x_fst, Fz.x_opt, Fz.x_nil, Fz.x_seq, Fz.x_expr, Fz.x_ret, Fz.x_retN, Fz.x_brk, Fz.x_cnt, Fz.x_qstuck, Fz.x_if, Fz.x_asg, Fz.x_tg, Fz.x_tgn, Fz.x_asgO, Fz.x_co, Fz.x_par2, Fz.x_par3, Fz.x_panil, Fz.x_paE, Fz.x_paF, Fz.x_parO2, Fz.x_parO3, Fz.x_p2, Fz.x_p3, Fz.x_set, Fz.x_setQ, Fz.x_wp, Fz.x_pre, Fz.x_wipe0, Fz.x_wipeS, Fz.x_tnm, Fz.x_tsnil, Fz.x_tscons, Fz.x_ttp, Fz.x_ttl, Fz.x_ttlT, Fz.x_tsb, Fz.x_var, Fz.x_slV, Fz.x_slO, Fz.x_pk, Fz.x_pkV, Fz.x_pkO, Fz.x_c, Fz.x_1, Fz.x_2, Fz.x_2k, Fz.x_n, Fz.x_n1, Fz.x_eif, Fz.x_and, Fz.x_or, Fz.x_not, Fz.x_ch, Fz.x_sl, Fz.x_slL, Fz.x_slk, Fz.x_onone, Fz.x_osome, Fz.x_inO, Fz.x_m, Fz.x_app, Fz.x_ow, Fz.x_anil, Fz.x_acons, Fz.x_astar, Fz.x_aapp, Fz.x_tru, Fz.x_tbl, Fz.x_tnot, Fz.x_tand, Fz.x_tor, Fz.x_tyes, Fz.x_blO, Fz.x_ubl, Fz.x_uint, Fz.x_unon, Fz.x_utup, Fz.x_ulsv, Fz.x_call, Fz.x_oc, Fz.x_io, Fz.x_put, Fz.x_perm0, Fz.x_def, Fz.x_defF, Fz.x_outs0, Fz.x_outsT, Fz.x_outsF, Fz.x_for, Fz.x_iof, Fz.x_ien, Fz.x_iN, Fz.x_srcT, Fz.x_srcF, Fz.x_srcL, Fz.x_srcS, Fz.x_zip, Fz.x_zipT, Fz.x_en, Fz.x_lc, Fz.x_rest0, Fz.x_restS, Fz.x_rsV, Fz.x_rsN, Fz.x_rsO, Fz.x_some, Fz.x_map, Fz.x_obind, Fz.x_mul, Fz.x_sub, Fz.x_div, Fz.x_mod, Fz.x_pow, Fz.x_shl, Fz.x_shr, Fz.x_andI, Fz.x_cmp, Fz.x_neg, Fz.x_addI, Fz.x_addS, Fz.x_addT, Fz.x_addL, Fz.x_addLL, Fz.x_mulAI, Fz.x_mulAC, Fz.x_mulAL, Fz.x_mulLL, Fz.x_tup, Fz.x_lst, Fz.x_abs, Fz.x_max2, Fz.x_min2, Fz.x_gcd, Fz.x_intI, Fz.x_intB, Fz.x_dm, Fz.x_lenS, Fz.x_lenT, Fz.x_lenF, Fz.x_lenL, Fz.x_ixT, Fz.x_ixF, Fz.x_ixL, Fz.x_ixS, Fz.x_slT, Fz.x_slF, Fz.x_slLs, Fz.x_slS, Fz.x_slLF, Fz.x_slLL, Fz.x_revS, Fz.x_revL, Fz.x_tupleT, Fz.x_tupleF, Fz.x_tupleL, Fz.x_listT, Fz.x_listF, Fz.x_listL, Fz.x_sumL, Fz.x_sumT, Fz.x_sumF, Fz.x_all, Fz.x_any, Fz.x_r1, Fz.x_r2, Fz.x_r3, Fz.x_lr, Fz.x_join, Fz.x_tyS, Fz.x_tyL, Fz.x_eqQ, Fz.x_eqS, Fz.x_neS, Fz.x_eqI, Fz.x_neI, Fz.x_eqB, Fz.x_neB, Fz.x_eqT, Fz.x_neT, Fz.x_eqL, Fz.x_neL, Fz.x_pyI, Fz.x_pyS, Fz.x_pyB, Fz.x_pyN, Fz.x_pyT, Fz.x_pyF, Fz.x_pyL, Fz.x_mp0, Fz.x_mpC, Fz.x_mpO, Fz.x_omap, Fz.x_repr, Fz.x_rp, Fz.x_pyfr, Fz.x_mpfr, Fz.x_mpint, Fz.x_isN, Fz.x_isI, Fz.x_isS, Fz.x_isT, Fz.x_isL, Fz.x_isB, Fz.x_isBB, Fz.x_isfr, Fz.x_inC, Fz.x_ninC, Fz.x_isi1, Fz.x_isi2, Fz.x_isi3, Fz.x_isi4, Fz.x_isi5, Fz.x_isi6, Fz.x_isi7, Fz.x_isi8, Fz.x_isi9, Fz.x_isi10, Fz.x_isi11, Fz.x_isi12, Fz.x_isi13, Fz.x_isi14, Fz.x_isi15, Fz.x_isi16, Fz.x_isi17, Fz.x_isi18, Fz.x_isi19, Fz.x_isi20, Fz.x_ttpf, Fz.x_ixfr0, Fz.x_ixfr1, Fz.x_lenfr, Fz.x_itfr, Fz.x_itT, Fz.x_itL, Fz.x_srcfr, Fz.x_eqfr, Fz.x_nefr, Fz.x_ufr, Fz.x_ll, Fz.x_calll, Fz.x_ienA, Fz.x_enA, Fz.x_enT, Fz.x_rvT, Fz.x_rvS, Fz.x_rvL, Fz.x_rvF, Fz.x_lcm, Fz.if_false', Fz.if_true', Fz.optQ_some, Fz.atI_0, Fz.atI_1, Fz.atI_n, Fz.ixN_0, Fz.ixN_1, Fz.ixN_n, List.set_cons_succ, List.set_cons_zero, List.getElem?_cons_succ, List.getElem?_cons_zero, List.length_cons, List.length_nil, List.map_cons, List.map_nil, List.replicate_succ, List.replicate_zero, List.cons_append, List.nil_append, List.append_assoc, List.append_nil, Fz.permL, List.filterMap_cons, List.filterMap_nil, List.length_set, List.set_set, Nat.reduceAdd, Nat.reduceLT, Nat.reduceLeDiff, Nat.reduceSub, Nat.reduceEqDiff, Int.reduceAdd, Int.reduceToNat, Int.reducePow, decide_eq_true_eq, if_true, if_false, ite_true, ite_false, true_and, and_true, not_false_eq_true, not_true_eq_false, false_and, and_false, Bool.false_eq_true, Bool.true_eq_false, Bool.not_true, Bool.not_false, Fz.cutD_map, Fz.ints_int, List.flatten_cons, List.flatten_nil, Nat.add_assoc, Fz.LINE, Fz.b62, and_assoc, List.all_cons, List.all_nil, Nat.le_refl, Option.map_some, List.cons_beq_cons, Nat.reduceBEq, Nat.reduceBNe, Bool.and_true, Bool.true_and, Bool.false_and, Bool.and_false, beq_self_eq_true, Bool.or_true, Bool.true_or, Bool.or_false, Bool.false_or, Fz.bls_map, List.length_append, List.length_map, List.length_take, List.length_drop, List.length_reverse, List.length_replicate, List.length_range, List.isEmpty_cons, List.isEmpty_nil, Int.reduceNeg, Int.reduceMul, Int.reduceSub, Int.reduceLT, Int.reduceLE, Int.reduceBEq, Int.reduceBNe, Int.reduceNe, Int.reduceEq, decide_true, decide_false, id, List.getElem?_nil, beq_iff_eq, bne_iff_ne, ne_eq, Bool.not_eq_true', Bool.and_eq_true, Bool.or_eq_true, beq_eq_false_iff_ne, Bool.not_eq_false', decide_eq_false_iff_not, Int.not_lt, Int.not_le, hy]
      refine ⟨(y, x % y), rfl, h2, Int.emod_nonneg _ (by omega), ?_, ?_, ?_⟩
      · simp only at h3 ⊢; rw [← h3]; unfold gI
        show ((Nat.gcd y.natAbs (x % y).natAbs : Nat) : Int) = ((Nat.gcd x.natAbs y.natAbs : Nat) : Int)
        rw [Int.natAbs_emod_of_nonneg h1, Nat.gcd_comm x.natAbs y.natAbs, Nat.gcd_rec y.natAbs x.natAbs, Nat.gcd_comm]
      · have := Int.emod_lt_of_pos x hy; have := Int.emod_nonneg x (show y ≠ 0 by omega); show (x % y).natAbs < _; simp only at h4; omega
      · have := Int.emod_lt_of_pos x hy; have := Int.emod_nonneg x (show y ≠ 0 by omega); show (x % y).natAbs < y.natAbs; omega
    · have y0 : y = 0 := by simp only at h2; omega
      subst y0
      have ex : x = gI a b := by rw [← h3]; unfold gI; simp; simp only at h1; omega
      subst ex
      simp -implicitDefEqProofs only [Fz.x_ok, Fz.x_stuck, Fz.x_exc, Fz.x_ite, Fz.x_bind, Fz.x_fl, Fz.x_fl0, Fz.x_fite, Fz.x_nx, Fz.x_rt, Fz.x_fst, Fz.x_opt, Fz.x_nil, Fz.x_seq, Fz.x_expr, Fz.x_ret, Fz.x_retN, Fz.x_brk, Fz.x_cnt, Fz.x_qstuck, Fz.x_if, Fz.x_asg, Fz.x_tg, Fz.x_tgn, Fz.x_asgO, Fz.x_co, Fz.x_par2, Fz.x_par3, Fz.x_panil, Fz.x_paE, Fz.x_paF, Fz.x_parO2, Fz.x_parO3, Fz.x_p2, Fz.x_p3, Fz.x_set, Fz.x_setQ, Fz.x_wp, Fz.x_pre, Fz.x_wipe0, Fz.x_wipeS, Fz.x_tnm, Fz.x_tsnil, Fz.x_tscons, Fz.x_ttp, Fz.x_ttl, Fz.x_ttlT, Fz.x_tsb, Fz.x_var, Fz.x_slV, Fz.x_slO, Fz.x_pk, Fz.x_pkV, Fz.x_pkO, Fz.x_c, Fz.x_1, Fz.x_2, Fz.x_2k, Fz.x_n, Fz.x_n1, Fz.x_eif, Fz.x_and, Fz.x_or, Fz.x_not, Fz.x_ch, Fz.x_sl, Fz.x_slL, Fz.x_slk, Fz.x_onone, Fz.x_osome, Fz.x_inO, Fz.x_m, Fz.x_app, Fz.x_ow, Fz.x_anil, Fz.x_acons, Fz.x_astar, Fz.x_aapp, Fz.x_tru, Fz.x_tbl, Fz.x_tnot, Fz.x_tand, Fz.x_tor, Fz.x_tyes, Fz.x_blO, Fz.x_ubl, Fz.x_uint, Fz.x_unon, Fz.x_utup, Fz.x_ulsv, Fz.x_call, Fz.x_oc, Fz.x_io, Fz.x_put, Fz.x_perm0, Fz.x_def, Fz.x_defF, Fz.x_outs0, Fz.x_outsT, Fz.x_outsF, Fz.x_for, Fz.x_iof, Fz.x_ien, Fz.x_iN, Fz.x_srcT, Fz.x_srcF, Fz.x_srcL, Fz.x_srcS, Fz.x_zip, Fz.x_zipT, Fz.x_en, Fz.x_lc, Fz.x_rest0, Fz.x_restS, Fz.x_rsV, Fz.x_rsN, Fz.x_rsO, Fz.x_some, Fz.x_map, Fz.x_obind, Fz.x_mul, Fz.x_sub, Fz.x_div, Fz.x_mod, Fz.x_pow, Fz.x_shl, Fz.x_shr, Fz.x_andI, Fz.x_cmp, Fz.x_neg, Fz.x_addI, Fz.x_addS, Fz.x_addT, Fz.x_addL, Fz.x_addLL, Fz.x_mulAI, Fz.x_mulAC, Fz.x_mulAL, Fz.x_mulLL, Fz.x_tup, Fz.x_lst, Fz.x_abs, Fz.x_max2, Fz.x_min2, Fz.x_gcd, Fz.x_intI, Fz.x_intB, Fz.x_dm, Fz.x_lenS, Fz.x_lenT, Fz.x_lenF, Fz.x_lenL, Fz.x_ixT, Fz.x_ixF, Fz.x_ixL, Fz.x_ixS, Fz.x_slT, Fz.x_slF, Fz.x_slLs, Fz.x_slS, Fz.x_slLF, Fz.x_slLL, Fz.x_revS, Fz.x_revL, Fz.x_tupleT, Fz.x_tupleF, Fz.x_tupleL, Fz.x_listT, Fz.x_listF, Fz.x_listL, Fz.x_sumL, Fz.x_sumT, Fz.x_sumF, Fz.x_all, Fz.x_any, Fz.x_r1, Fz.x_r2, Fz.x_r3, Fz.x_lr, Fz.x_join, Fz.x_tyS, Fz.x_tyL, Fz.x_eqQ, Fz.x_eqS, Fz.x_neS, Fz.x_eqI, Fz.x_neI, Fz.x_eqB, Fz.x_neB, Fz.x_eqT, Fz.x_neT, Fz.x_eqL, Fz.x_neL, Fz.x_pyI, Fz.x_pyS, Fz.x_pyB, Fz.x_pyN, Fz.x_pyT, Fz.x_pyF, Fz.x_pyL, Fz.x_mp0, Fz.x_mpC, Fz.x_mpO, Fz.x_omap, Fz.x_repr, Fz.x_rp, Fz.x_pyfr, Fz.x_mpfr, Fz.x_mpint, Fz.x_isN, Fz.x_isI, Fz.x_isS, Fz.x_isT, Fz.x_isL, Fz.x_isB, Fz.x_isBB, Fz.x_isfr, Fz.x_inC, Fz.x_ninC, Fz.x_isi1, Fz.x_isi2, Fz.x_isi3, Fz.x_isi4, Fz.x_isi5, Fz.x_isi6, Fz.x_isi7, Fz.x_isi8, Fz.x_isi9, Fz.x_isi10, Fz.x_isi11, Fz.x_isi12, Fz.x_isi13, Fz.x_isi14, Fz.x_isi15, Fz.x_isi16, Fz.x_isi17, Fz.x_isi18, Fz.x_isi19, Fz.x_isi20, Fz.x_ttpf, Fz.x_ixfr0, Fz.x_ixfr1, Fz.x_lenfr, Fz.x_itfr, Fz.x_itT, Fz.x_itL, Fz.x_srcfr, Fz.x_eqfr, Fz.x_nefr, Fz.x_ufr, Fz.x_ll, Fz.x_calll, Fz.x_ienA, Fz.x_enA, Fz.x_enT, Fz.x_rvT, Fz.x_rvS, Fz.x_rvL, Fz.x_rvF, Fz.x_lcm, Fz.if_false', Fz.if_true', Fz.optQ_some, Fz.atI_0, Fz.atI_1, Fz.atI_n, Fz.ixN_0, Fz.ixN_1, Fz.ixN_n, List.set_cons_succ, List.set_cons_zero, List.getElem?_cons_succ, List.getElem?_cons_zero, List.length_cons, List.length_nil, List.map_cons, List.map_nil, List.replicate_succ, List.replicate_zero, List.cons_append, List.nil_append, List.append_assoc, List.append_nil, Fz.permL, List.filterMap_cons, List.filterMap_nil, List.length_set, List.set_set, Nat.reduceAdd, Nat.reduceLT, Nat.reduceLeDiff, Nat.reduceSub, Nat.reduceEqDiff, Int.reduceAdd, Int.reduceToNat, Int.reducePow, decide_eq_true_eq, if_true, if_false, ite_true, ite_false, true_and, and_true, not_false_eq_true, not_true_eq_false, false_and, and_false, Bool.false_eq_true, Bool.true_eq_false, Bool.not_true, Bool.not_false, Fz.cutD_map, Fz.ints_int, List.flatten_cons, List.flatten_nil, Nat.add_assoc, Fz.LINE, Fz.b62, and_assoc, List.all_cons, List.all_nil, Nat.le_refl, Option.map_some, List.cons_beq_cons, Nat.reduceBEq, Nat.reduceBNe, Bool.and_true, Bool.true_and, Bool.false_and, Bool.and_false, beq_self_eq_true, Bool.or_true, Bool.true_or, Bool.or_false, Bool.false_or, Fz.bls_map, List.length_append, List.length_map, List.length_take, List.length_drop, List.length_reverse, List.length_replicate, List.length_range, List.isEmpty_cons, List.isEmpty_nil, Int.reduceNeg, Int.reduceMul, Int.reduceSub, Int.reduceLT, Int.reduceLE, Int.reduceBEq, Int.reduceBNe, Int.reduceNe, Int.reduceEq, decide_true, decide_false, id, List.getElem?_nil, beq_iff_eq, bne_iff_ne, ne_eq, Bool.not_eq_true', Bool.and_eq_true, Bool.or_eq_true, beq_eq_false_iff_ne, Bool.not_eq_false', decide_eq_false_iff_not, Int.not_lt, Int.not_le, Int.lt_irrefl])
theorem llowest_eq {a b : Int} (hb : 0 < b) (h : Bd 64 b) : G__law_lowest [.vl (.int a), .vl (.int b)] = .ok (fr (red a b)) [.no, .no] := gsat_eq (by
  have d : divOk (gI a b) := Bd.div (gI_bd hb h) (gI_pos hb)
  unfold G__law_lowest g__law_lowest
  simp -implicitDefEqProofs only [Fz.x_ok, Fz.x_stuck, Fz.x_exc, Fz.x_ite, Fz.x_bind, Fz.x_fl, Fz.x_fl0, Fz.x_fite, Fz.x_nx, Fz.x_rt, Fz.x_fst, Fz.x_opt, Fz.x_nil, Fz.x_seq, Fz.x_expr, Fz.x_ret, Fz.x_retN, Fz.x_brk, Fz.x_cnt, Fz.x_qstuck, Fz.x_if, Fz.x_asg, Fz.x_tg, Fz.x_tgn, Fz.x_asgO, Fz.x_co, Fz.x_par2, Fz.x_par3, Fz.x_panil, Fz.x_paE, Fz.x_paF, Fz.x_parO2, Fz.x_parO3, Fz.x_p2, Fz.x_p3, Fz.x_set, Fz.x_setQ, Fz.x_wp, Fz.x_pre, Fz.x_wipe0, Fz.x_wipeS, Fz.x_tnm, Fz.x_tsnil, Fz.x_tscons, Fz.x_ttp, Fz.x_ttl, Fz.x_ttlT, Fz.x_tsb, Fz.x_var, Fz.x_slV, Fz.x_slO, Fz.x_pk, Fz.x_pkV, Fz.x_pkO, Fz.x_c, Fz.x_1, Fz.x_2, Fz.x_2k, Fz.x_n, Fz.x_n1, Fz.x_eif, Fz.x_and, Fz.x_or, Fz.x_not, Fz.x_ch, Fz.x_sl, Fz.x_slL, Fz.x_slk, Fz.x_onone, Fz.x_osome, Fz.x_inO, Fz.x_m, Fz.x_app, Fz.x_ow, Fz.x_anil, Fz.x_acons, Fz.x_astar, Fz.x_aapp, Fz.x_tru, Fz.x_tbl, Fz.x_tnot, Fz.x_tand, Fz.x_tor, Fz.x_tyes, Fz.x_blO, Fz.x_ubl, Fz.x_uint, Fz.x_unon, Fz.x_utup, Fz.x_ulsv, Fz.x_call, Fz.x_oc, Fz.x_io, Fz.x_put, Fz.x_perm0, Fz.x_def, Fz.x_defF, Fz.x_outs0, Fz.x_outsT, Fz.x_outsF, Fz.x_for, Fz.x_iof, Fz.x_ien, Fz.x_iN, Fz.x_srcT, Fz.x_srcF, Fz.x_srcL, Fz.x_srcS, Fz.x_zip, Fz.x_zipT, Fz.x_en, Fz.x_lc, Fz.x_rest0, Fz.x_restS, Fz.x_rsV, Fz.x_rsN, Fz.x_rsO, Fz.x_some, Fz.x_map, Fz.x_obind, Fz.x_mul, Fz.x_sub, Fz.x_div, Fz.x_mod, Fz.x_pow, Fz.x_shl, Fz.x_shr, Fz.x_andI, Fz.x_cmp, Fz.x_neg, Fz.x_addI, Fz.x_addS, Fz.x_addT, Fz.x_addL, Fz.x_addLL, Fz.x_mulAI, Fz.x_mulAC, Fz.x_mulAL, Fz.x_mulLL, Fz.x_tup, Fz.x_lst, Fz.x_abs, Fz.x_max2, Fz.x_min2, Fz.x_gcd, Fz.x_intI, Fz.x_intB, Fz.x_dm, Fz.x_lenS, Fz.x_lenT, Fz.x_lenF, Fz.x_lenL, Fz.x_ixT, Fz.x_ixF, Fz.x_ixL, Fz.x_ixS, Fz.x_slT, Fz.x_slF, Fz.x_slLs, Fz.x_slS, Fz.x_slLF, Fz.x_slLL, Fz.x_revS, Fz.x_revL, Fz.x_tupleT, Fz.x_tupleF, Fz.x_tupleL, Fz.x_listT, Fz.x_listF, Fz.x_listL, Fz.x_sumL, Fz.x_sumT, Fz.x_sumF, Fz.x_all, Fz.x_any, Fz.x_r1, Fz.x_r2, Fz.x_r3, Fz.x_lr, Fz.x_join, Fz.x_tyS, Fz.x_tyL, Fz.x_eqQ, Fz.x_eqS, Fz.x_neS, Fz.x_eqI, Fz.x_neI, Fz.x_eqB, Fz.x_neB, Fz.x_eqT, Fz.x_neT, Fz.x_eqL, Fz.x_neL, Fz.x_pyI, Fz.x_pyS, Fz.x_pyB, Fz.x_pyN, Fz.x_pyT, Fz.x_pyF, Fz.x_pyL, Fz.x_mp0, Fz.x_mpC, Fz.x_mpO, Fz.x_omap, Fz.x_repr, Fz.x_rp, Fz.x_pyfr, Fz.x_mpfr, Fz.x_mpint, Fz.x_isN, Fz.x_isI, Fz.x_isS, Fz.x_isT, Fz.x_isL, Fz.x_isB, Fz.x_isBB, Fz.x_isfr, Fz.x_inC, Fz.x_ninC, Fz.x_isi1, Fz.x_isi2, Fz.x_isi3, Fz.x_isi4, Fz.x_isi5, Fz.x_isi6, Fz.x_isi7, Fz.x_isi8, Fz.x_isi9, Fz.x_isi10, Fz.x_isi11, Fz.x_isi12, Fz.x_isi13, Fz.x_isi14, Fz.x_isi15, Fz.x_isi16, Fz.x_isi17, Fz.x_isi18, Fz.x_isi19, Fz.x_isi20, Fz.x_ttpf, Fz.x_ixfr0, Fz.x_ixfr1, Fz.x_lenfr, Fz.x_itfr, Fz.x_itT, Fz.x_itL, Fz.x_srcfr, Fz.x_eqfr, Fz.x_nefr, Fz.x_ufr, Fz.x_ll, Fz.x_calll, Fz.x_ienA, Fz.x_enA, Fz.x_enT, Fz.x_rvT, Fz.x_rvS, Fz.x_rvL, Fz.x_rvF, Fz.x_lcm, Fz.if_false', Fz.if_true', Fz.optQ_some, Fz.atI_0, Fz.atI_1, Fz.atI_n, Fz.ixN_0, Fz.ixN_1, Fz.ixN_n, List.set_cons_succ, List.set_cons_zero, List.getElem?_cons_succ, List.getElem?_cons_zero, List.length_cons, List.length_nil, List.map_cons, List.map_nil, List.replicate_succ, List.replicate_zero, List.cons_append, List.nil_append, List.append_assoc, List.append_nil, Fz.permL, List.filterMap_cons, List.filterMap_nil, List.length_set, List.set_set, Nat.reduceAdd, Nat.reduceLT, Nat.reduceLeDiff, Nat.reduceSub, Nat.reduceEqDiff, Int.reduceAdd, Int.reduceToNat, Int.reducePow, decide_eq_true_eq, if_true, if_false, ite_true, ite_false, true_and, and_true, not_false_eq_true, not_true_eq_false, false_and, and_false, Bool.false_eq_true, Bool.true_eq_false, Bool.not_true, Bool.not_false, Fz.cutD_map, Fz.ints_int, List.flatten_cons, List.flatten_nil, Nat.add_assoc, Fz.LINE, Fz.b62, and_assoc, List.all_cons, List.all_nil, Nat.le_refl, Option.map_some, List.cons_beq_cons, Nat.reduceBEq, Nat.reduceBNe, Bool.and_true, Bool.true_and, Bool.false_and, Bool.and_false, beq_self_eq_true, Bool.or_true, Bool.true_or, Bool.or_false, Bool.false_or, Fz.bls_map, List.length_append, List.length_map, List.length_take, List.length_drop, List.length_reverse, List.length_replicate, List.length_range, List.isEmpty_cons, List.isEmpty_nil, Int.reduceNeg, Int.reduceMul, Int.reduceSub, Int.reduceLT, Int.reduceLE, Int.reduceBEq, Int.reduceBNe, Int.reduceNe, Int.reduceEq, decide_true, decide_false, id, List.getElem?_nil, beq_iff_eq, bne_iff_ne, ne_eq, Bool.not_eq_true', Bool.and_eq_true, Bool.or_eq_true, beq_eq_false_iff_ne, Bool.not_eq_false', decide_eq_false_iff_not, Int.not_lt, Int.not_le, common_eq h, hb]
  exact ⟨d, d, rfl⟩)
abbrev Pl (a b c : Int) : Sl := .ow (.lst [.int a, .int b, .int c])
theorem take_spec {a b c m : Int} (hm : 0 < m) (hm2 : m < 1073741824) :
    (G__law_take [Pl a b c, .vl (.int m)]).sat (fun d o => ∃ x a b c : Int, d = .int x ∧ 0 ≤ x ∧ x < m ∧ o = [Pl a b c, .no]) noX := by
  unfold G__law_take g__law_take
  simp -implicitDefEqProofs only [Fz.x_ok, Fz.x_stuck, Fz.x_exc, Fz.x_ite, Fz.x_bind, Fz.x_fl, Fz.x_fl0, Fz.x_fite, Fz.x_nx, Fz.x_rt, Fz.x_fst, Fz.x_opt, Fz.x_nil, Fz.x_seq, Fz.x_expr, Fz.x_ret, Fz.x_retN, Fz.x_brk, Fz.x_cnt, Fz.x_qstuck, Fz.x_if, Fz.x_asg, Fz.x_tg, Fz.x_tgn, Fz.x_asgO, Fz.x_co, Fz.x_par2, Fz.x_par3, Fz.x_panil, Fz.x_paE, Fz.x_paF, Fz.x_parO2, Fz.x_parO3, Fz.x_p2, Fz.x_p3, Fz.x_set, Fz.x_setQ, Fz.x_wp, Fz.x_pre, Fz.x_wipe0, Fz.x_wipeS, Fz.x_tnm, Fz.x_tsnil, Fz.x_tscons, Fz.x_ttp, Fz.x_ttl, Fz.x_ttlT, Fz.x_tsb, Fz.x_var, Fz.x_slV, Fz.x_slO, Fz.x_pk, Fz.x_pkV, Fz.x_pkO, Fz.x_c, Fz.x_1, Fz.x_2, Fz.x_2k, Fz.x_n, Fz.x_n1, Fz.x_eif, Fz.x_and, Fz.x_or, Fz.x_not, Fz.x_ch, Fz.x_sl, Fz.x_slL, Fz.x_slk, Fz.x_onone, Fz.x_osome, Fz.x_inO, Fz.x_m, Fz.x_app, Fz.x_ow, Fz.x_anil, Fz.x_acons, Fz.x_astar, Fz.x_aapp, Fz.x_tru, Fz.x_tbl, Fz.x_tnot, Fz.x_tand, Fz.x_tor, Fz.x_tyes, Fz.x_blO, Fz.x_ubl, Fz.x_uint, Fz.x_unon, Fz.x_utup, Fz.x_ulsv, Fz.x_call, Fz.x_oc, Fz.x_io, Fz.x_put, Fz.x_perm0, Fz.x_def, Fz.x_defF, Fz.x_outs0, Fz.x_outsT, Fz.x_outsF, Fz.x_for, Fz.x_iof, Fz.x_ien, Fz.x_iN, Fz.x_srcT, Fz.x_srcF, Fz.x_srcL, Fz.x_srcS, Fz.x_zip, Fz.x_zipT, Fz.x_en, Fz.x_lc, Fz.x_rest0, Fz.x_restS, Fz.x_rsV, Fz.x_rsN, Fz.x_rsO, Fz.x_some, Fz.x_map, Fz.x_obind, Fz.x_mul, Fz.x_sub, Fz.x_div, Fz.x_mod, Fz.x_pow, Fz.x_shl, Fz.x_shr, Fz.x_andI, Fz.x_cmp, Fz.x_neg, Fz.x_addI, Fz.x_addS, Fz.x_addT, Fz.x_addL, Fz.x_addLL, Fz.x_mulAI, Fz.x_mulAC, Fz.x_mulAL, Fz.x_mulLL, Fz.x_tup, Fz.x_lst, Fz.x_abs, Fz.x_max2, Fz.x_min2, Fz.x_gcd, Fz.x_intI, Fz.x_intB, Fz.x_dm, Fz.x_lenS, Fz.x_lenT, Fz.x_lenF, Fz.x_lenL, Fz.x_ixT, Fz.x_ixF, Fz.x_ixL, Fz.x_ixS, Fz.x_slT, Fz.x_slF, Fz.x_slLs, Fz.x_slS, Fz.x_slLF, Fz.x_slLL, Fz.x_revS, Fz.x_revL, Fz.x_tupleT, Fz.x_tupleF, Fz.x_tupleL, Fz.x_listT, Fz.x_listF, Fz.x_listL, Fz.x_sumL, Fz.x_sumT, Fz.x_sumF, Fz.x_all, Fz.x_any, Fz.x_r1, Fz.x_r2, Fz.x_r3, Fz.x_lr, Fz.x_join, Fz.x_tyS, Fz.x_tyL, Fz.x_eqQ, Fz.x_eqS, Fz.x_neS, Fz.x_eqI, Fz.x_neI, Fz.x_eqB, Fz.x_neB, Fz.x_eqT, Fz.x_neT, Fz.x_eqL, Fz.x_neL, Fz.x_pyI, Fz.x_pyS, Fz.x_pyB, Fz.x_pyN, Fz.x_pyT, Fz.x_pyF, Fz.x_pyL, Fz.x_mp0, Fz.x_mpC, Fz.x_mpO, Fz.x_omap, Fz.x_repr, Fz.x_rp, Fz.x_pyfr, Fz.x_mpfr, Fz.x_mpint, Fz.x_isN, Fz.x_isI, Fz.x_isS, Fz.x_isT, Fz.x_isL, Fz.x_isB, Fz.x_isBB, Fz.x_isfr, Fz.x_inC, Fz.x_ninC, Fz.x_isi1, Fz.x_isi2, Fz.x_isi3, Fz.x_isi4, Fz.x_isi5, Fz.x_isi6, Fz.x_isi7, Fz.x_isi8, Fz.x_isi9, Fz.x_isi10, Fz.x_isi11, Fz.x_isi12, Fz.x_isi13, Fz.x_isi14, Fz.x_isi15, Fz.x_isi16, Fz.x_isi17, Fz.x_isi18, Fz.x_isi19, Fz.x_isi20, Fz.x_ttpf, Fz.x_ixfr0, Fz.x_ixfr1, Fz.x_lenfr, Fz.x_itfr, Fz.x_itT, Fz.x_itL, Fz.x_srcfr, Fz.x_eqfr, Fz.x_nefr, Fz.x_ufr, Fz.x_ll, Fz.x_calll, Fz.x_ienA, Fz.x_enA, Fz.x_enT, Fz.x_rvT, Fz.x_rvS, Fz.x_rvL, Fz.x_rvF, Fz.x_lcm, Fz.if_false', Fz.if_true', Fz.optQ_some, Fz.atI_0, Fz.atI_1, Fz.atI_n, Fz.ixN_0, Fz.ixN_1, Fz.ixN_n, List.set_cons_succ, List.set_cons_zero, List.getElem?_cons_succ, List.getElem?_cons_zero, List.length_cons, List.length_nil, List.map_cons, List.map_nil, List.replicate_succ, List.replicate_zero, List.cons_append, List.nil_append, List.append_assoc, List.append_nil, Fz.permL, List.filterMap_cons, List.filterMap_nil, List.length_set, List.set_set, Nat.reduceAdd, Nat.reduceLT, Nat.reduceLeDiff, Nat.reduceSub, Nat.reduceEqDiff, Int.reduceAdd, Int.reduceToNat, Int.reducePow, decide_eq_true_eq, if_true, if_false, ite_true, ite_false, true_and, and_true, not_false_eq_true, not_true_eq_false, false_and, and_false, Bool.false_eq_true, Bool.true_eq_false, Bool.not_true, Bool.not_false, Fz.cutD_map, Fz.ints_int, List.flatten_cons, List.flatten_nil, Nat.add_assoc, Fz.LINE, Fz.b62, and_assoc, List.all_cons, List.all_nil, Nat.le_refl, Option.map_some, List.cons_beq_cons, Nat.reduceBEq, Nat.reduceBNe, Bool.and_true, Bool.true_and, Bool.false_and, Bool.and_false, beq_self_eq_true, Bool.or_true, Bool.true_or, Bool.or_false, Bool.false_or, Fz.bls_map, List.length_append, List.length_map, List.length_take, List.length_drop, List.length_reverse, List.length_replicate, List.length_range, List.isEmpty_cons, List.isEmpty_nil, Int.reduceNeg, Int.reduceMul, Int.reduceSub, Int.reduceLT, Int.reduceLE, Int.reduceBEq, Int.reduceBNe, Int.reduceNe, Int.reduceEq, decide_true, decide_false, id, List.getElem?_nil, beq_iff_eq, bne_iff_ne, ne_eq, Bool.not_eq_true', Bool.and_eq_true, Bool.or_eq_true, beq_eq_false_iff_ne, Bool.not_eq_false', decide_eq_false_iff_not, Int.not_lt, Int.not_le]
  split
  · repeat ((with_reducible refine And.intro ?_ ?_); focus (first | (with_reducible assumption) | ((with_reducible refine (?_ : Fz.mulOk _ _)); first | decide +kernel | exact Fz.Bd.ok (by repeat' (first | (with_reducible assumption) | exact (show Fz.Bd 64 _ by decide) | apply Fz.Bd.mul | apply Fz.Bd.add' | apply Fz.Bd.sub' | apply Fz.Bd.neg)) (by repeat' (first | (with_reducible assumption) | exact (show Fz.Bd 64 _ by decide) | apply Fz.Bd.mul | apply Fz.Bd.add' | apply Fz.Bd.sub' | apply Fz.Bd.neg)) | exact Fz.mul_l (by omega) (by omega) | exact Fz.mul_r (by omega) (by omega)) | ((with_reducible refine (?_ : Fz.divOk _)); first | decide +kernel | exact Fz.dv_s (by omega) (by omega) | exact Fz.Bd.div (by repeat' (first | (with_reducible assumption) | exact (show Fz.Bd 64 _ by decide) | apply Fz.Bd.mul | apply Fz.Bd.add' | apply Fz.Bd.sub' | apply Fz.Bd.neg)) (by omega)) | ((with_reducible refine (?_ : L2.CDiv _ _)); exact ⟨by omega, by omega⟩) | omega | decide +kernel | exact True.intro))
    exact ⟨_, _, _, _, rfl, Int.emod_nonneg _ (by omega), Int.emod_lt_of_pos _ hm, rfl⟩
  · repeat ((with_reducible refine And.intro ?_ ?_); focus (first | (with_reducible assumption) | ((with_reducible refine (?_ : Fz.mulOk _ _)); first | decide +kernel | exact Fz.Bd.ok (by repeat' (first | (with_reducible assumption) | exact (show Fz.Bd 64 _ by decide) | apply Fz.Bd.mul | apply Fz.Bd.add' | apply Fz.Bd.sub' | apply Fz.Bd.neg)) (by repeat' (first | (with_reducible assumption) | exact (show Fz.Bd 64 _ by decide) | apply Fz.Bd.mul | apply Fz.Bd.add' | apply Fz.Bd.sub' | apply Fz.Bd.neg)) | exact Fz.mul_l (by omega) (by omega) | exact Fz.mul_r (by omega) (by omega)) | ((with_reducible refine (?_ : Fz.divOk _)); first | decide +kernel | exact Fz.dv_s (by omega) (by omega) | exact Fz.Bd.div (by repeat' (first | (with_reducible assumption) | exact (show Fz.Bd 64 _ by decide) | apply Fz.Bd.mul | apply Fz.Bd.add' | apply Fz.Bd.sub' | apply Fz.Bd.neg)) (by omega)) | ((with_reducible refine (?_ : L2.CDiv _ _)); exact ⟨by omega, by omega⟩) | omega | decide +kernel | exact True.intro))
    exact ⟨_, _, _, _, rfl, Int.emod_nonneg _ (by omega), Int.emod_lt_of_pos _ hm, rfl⟩
theorem bag_spec {ns : List Int} {k : Int} (hk : 0 ≤ k) (hk2 : k ≤ 3) : (G__law_bag [.vl (.frl (ns.map D.int)), .vl (.int k)]).sat (fun d o => ∃ a b c : Int, d = .lsv [.int a, .int b, .int c]) noX := by
  unfold G__law_bag g__law_bag
  simp -implicitDefEqProofs only [Fz.x_ok, Fz.x_stuck, Fz.x_exc, Fz.x_ite, Fz.x_bind, Fz.x_fl, Fz.x_fl0, Fz.x_fite, Fz.x_nx, Fz.x_rt, Fz.x_fst, Fz.x_opt, Fz.x_nil, Fz.x_seq, Fz.x_expr, Fz.x_ret, Fz.x_retN, Fz.x_brk, Fz.x_cnt, Fz.x_qstuck, Fz.x_if, Fz.x_asg, Fz.x_tg, Fz.x_tgn, Fz.x_asgO, Fz.x_co, Fz.x_par2, Fz.x_par3, Fz.x_panil, Fz.x_paE, Fz.x_paF, Fz.x_parO2, Fz.x_parO3, Fz.x_p2, Fz.x_p3, Fz.x_set, Fz.x_setQ, Fz.x_wp, Fz.x_pre, Fz.x_wipe0, Fz.x_wipeS, Fz.x_tnm, Fz.x_tsnil, Fz.x_tscons, Fz.x_ttp, Fz.x_ttl, Fz.x_ttlT, Fz.x_tsb, Fz.x_var, Fz.x_slV, Fz.x_slO, Fz.x_pk, Fz.x_pkV, Fz.x_pkO, Fz.x_c, Fz.x_1, Fz.x_2, Fz.x_2k, Fz.x_n, Fz.x_n1, Fz.x_eif, Fz.x_and, Fz.x_or, Fz.x_not, Fz.x_ch, Fz.x_sl, Fz.x_slL, Fz.x_slk, Fz.x_onone, Fz.x_osome, Fz.x_inO, Fz.x_m, Fz.x_app, Fz.x_ow, Fz.x_anil, Fz.x_acons, Fz.x_astar, Fz.x_aapp, Fz.x_tru, Fz.x_tbl, Fz.x_tnot, Fz.x_tand, Fz.x_tor, Fz.x_tyes, Fz.x_blO, Fz.x_ubl, Fz.x_uint, Fz.x_unon, Fz.x_utup, Fz.x_ulsv, Fz.x_call, Fz.x_oc, Fz.x_io, Fz.x_put, Fz.x_perm0, Fz.x_def, Fz.x_defF, Fz.x_outs0, Fz.x_outsT, Fz.x_outsF, Fz.x_for, Fz.x_iof, Fz.x_ien, Fz.x_iN, Fz.x_srcT, Fz.x_srcF, Fz.x_srcL, Fz.x_srcS, Fz.x_zip, Fz.x_zipT, Fz.x_en, Fz.x_lc, Fz.x_rest0, Fz.x_restS, Fz.x_rsV, Fz.x_rsN, Fz.x_rsO, Fz.x_some, Fz.x_map, Fz.x_obind, Fz.x_mul, Fz.x_sub, Fz.x_div, Fz.x_mod, Fz.x_pow, Fz.x_shl, Fz.x_shr, Fz.x_andI, Fz.x_cmp, Fz.x_neg, Fz.x_addI, Fz.x_addS, Fz.x_addT, Fz.x_addL, Fz.x_addLL, Fz.x_mulAI, Fz.x_mulAC, Fz.x_mulAL, Fz.x_mulLL, Fz.x_tup, Fz.x_lst, Fz.x_abs, Fz.x_max2, Fz.x_min2, Fz.x_gcd, Fz.x_intI, Fz.x_intB, Fz.x_dm, Fz.x_lenS, Fz.x_lenT, Fz.x_lenF, Fz.x_lenL, Fz.x_ixT, Fz.x_ixF, Fz.x_ixL, Fz.x_ixS, Fz.x_slT, Fz.x_slF, Fz.x_slLs, Fz.x_slS, Fz.x_slLF, Fz.x_slLL, Fz.x_revS, Fz.x_revL, Fz.x_tupleT, Fz.x_tupleF, Fz.x_tupleL, Fz.x_listT, Fz.x_listF, Fz.x_listL, Fz.x_sumL, Fz.x_sumT, Fz.x_sumF, Fz.x_all, Fz.x_any, Fz.x_r1, Fz.x_r2, Fz.x_r3, Fz.x_lr, Fz.x_join, Fz.x_tyS, Fz.x_tyL, Fz.x_eqQ, Fz.x_eqS, Fz.x_neS, Fz.x_eqI, Fz.x_neI, Fz.x_eqB, Fz.x_neB, Fz.x_eqT, Fz.x_neT, Fz.x_eqL, Fz.x_neL, Fz.x_pyI, Fz.x_pyS, Fz.x_pyB, Fz.x_pyN, Fz.x_pyT, Fz.x_pyF, Fz.x_pyL, Fz.x_mp0, Fz.x_mpC, Fz.x_mpO, Fz.x_omap, Fz.x_repr, Fz.x_rp, Fz.x_pyfr, Fz.x_mpfr, Fz.x_mpint, Fz.x_isN, Fz.x_isI, Fz.x_isS, Fz.x_isT, Fz.x_isL, Fz.x_isB, Fz.x_isBB, Fz.x_isfr, Fz.x_inC, Fz.x_ninC, Fz.x_isi1, Fz.x_isi2, Fz.x_isi3, Fz.x_isi4, Fz.x_isi5, Fz.x_isi6, Fz.x_isi7, Fz.x_isi8, Fz.x_isi9, Fz.x_isi10, Fz.x_isi11, Fz.x_isi12, Fz.x_isi13, Fz.x_isi14, Fz.x_isi15, Fz.x_isi16, Fz.x_isi17, Fz.x_isi18, Fz.x_isi19, Fz.x_isi20, Fz.x_ttpf, Fz.x_ixfr0, Fz.x_ixfr1, Fz.x_lenfr, Fz.x_itfr, Fz.x_itT, Fz.x_itL, Fz.x_srcfr, Fz.x_eqfr, Fz.x_nefr, Fz.x_ufr, Fz.x_ll, Fz.x_calll, Fz.x_ienA, Fz.x_enA, Fz.x_enT, Fz.x_rvT, Fz.x_rvS, Fz.x_rvL, Fz.x_rvF, Fz.x_lcm, Fz.if_false', Fz.if_true', Fz.optQ_some, Fz.atI_0, Fz.atI_1, Fz.atI_n, Fz.ixN_0, Fz.ixN_1, Fz.ixN_n, List.set_cons_succ, List.set_cons_zero, List.getElem?_cons_succ, List.getElem?_cons_zero, List.length_cons, List.length_nil, List.map_cons, List.map_nil, List.replicate_succ, List.replicate_zero, List.cons_append, List.nil_append, List.append_assoc, List.append_nil, Fz.permL, List.filterMap_cons, List.filterMap_nil, List.length_set, List.set_set, Nat.reduceAdd, Nat.reduceLT, Nat.reduceLeDiff, Nat.reduceSub, Nat.reduceEqDiff, Int.reduceAdd, Int.reduceToNat, Int.reducePow, decide_eq_true_eq, if_true, if_false, ite_true, ite_false, true_and, and_true, not_false_eq_true, not_true_eq_false, false_and, and_false, Bool.false_eq_true, Bool.true_eq_false, Bool.not_true, Bool.not_false, Fz.cutD_map, Fz.ints_int, List.flatten_cons, List.flatten_nil, Nat.add_assoc, Fz.LINE, Fz.b62, and_assoc, List.all_cons, List.all_nil, Nat.le_refl, Option.map_some, List.cons_beq_cons, Nat.reduceBEq, Nat.reduceBNe, Bool.and_true, Bool.true_and, Bool.false_and, Bool.and_false, beq_self_eq_true, Bool.or_true, Bool.true_or, Bool.or_false, Bool.false_or, Fz.bls_map, List.length_append, List.length_map, List.length_take, List.length_drop, List.length_reverse, List.length_replicate, List.length_range, List.isEmpty_cons, List.isEmpty_nil, Int.reduceNeg, Int.reduceMul, Int.reduceSub, Int.reduceLT, Int.reduceLE, Int.reduceBEq, Int.reduceBNe, Int.reduceNe, Int.reduceEq, decide_true, decide_false, id, List.getElem?_nil, beq_iff_eq, bne_iff_ne, ne_eq, Bool.not_eq_true', Bool.and_eq_true, Bool.or_eq_true, beq_eq_false_iff_ne, Bool.not_eq_false', decide_eq_false_iff_not, Int.not_lt, Int.not_le]
  repeat ((with_reducible refine And.intro ?_ ?_); focus (first | (with_reducible assumption) | ((with_reducible refine (?_ : Fz.mulOk _ _)); first | decide +kernel | exact Fz.Bd.ok (by repeat' (first | (with_reducible assumption) | exact (show Fz.Bd 64 _ by decide) | apply Fz.Bd.mul | apply Fz.Bd.add' | apply Fz.Bd.sub' | apply Fz.Bd.neg)) (by repeat' (first | (with_reducible assumption) | exact (show Fz.Bd 64 _ by decide) | apply Fz.Bd.mul | apply Fz.Bd.add' | apply Fz.Bd.sub' | apply Fz.Bd.neg)) | exact Fz.mul_l (by omega) (by omega) | exact Fz.mul_r (by omega) (by omega)) | ((with_reducible refine (?_ : Fz.divOk _)); first | decide +kernel | exact Fz.dv_s (by omega) (by omega) | exact Fz.Bd.div (by repeat' (first | (with_reducible assumption) | exact (show Fz.Bd 64 _ by decide) | apply Fz.Bd.mul | apply Fz.Bd.add' | apply Fz.Bd.sub' | apply Fz.Bd.neg)) (by omega)) | ((with_reducible refine (?_ : L2.CDiv _ _)); exact ⟨by omega, by omega⟩) | omega | decide +kernel | exact True.intro))
  refine gforX (fun m : Int => [_, _, .vl (.int m), .no, .no]) (fun _ _ => True) _ rfl trivial ?_ ?_
  · intro i v m hv _
    simp -implicitDefEqProofs only [Fz.x_ok, Fz.x_stuck, Fz.x_exc, Fz.x_ite, Fz.x_bind, Fz.x_fl, Fz.x_fl0, Fz.x_fite, Fz.x_nx, Fz.x_rt, Fz.x_fst, Fz.x_opt, Fz.x_nil, Fz.x_seq, Fz.x_expr, Fz.x_ret, Fz.x_retN, Fz.x_brk, Fz.x_cnt, Fz.x_qstuck, Fz.x_if, Fz.x_asg, Fz.x_tg, Fz.x_tgn, Fz.x_asgO, Fz.x_co, Fz.x_par2, Fz.x_par3, Fz.x_panil, Fz.x_paE, Fz.x_paF, Fz.x_parO2, Fz.x_parO3, Fz.x_p2, Fz.x_p3, Fz.x_set, Fz.x_setQ, Fz.x_wp, Fz.x_pre, Fz.x_wipe0, Fz.x_wipeS, Fz.x_tnm, Fz.x_tsnil, Fz.x_tscons, Fz.x_ttp, Fz.x_ttl, Fz.x_ttlT, Fz.x_tsb, Fz.x_var, Fz.x_slV, Fz.x_slO, Fz.x_pk, Fz.x_pkV, Fz.x_pkO, Fz.x_c, Fz.x_1, Fz.x_2, Fz.x_2k, Fz.x_n, Fz.x_n1, Fz.x_eif, Fz.x_and, Fz.x_or, Fz.x_not, Fz.x_ch, Fz.x_sl, Fz.x_slL, Fz.x_slk, Fz.x_onone, Fz.x_osome, Fz.x_inO, Fz.x_m, Fz.x_app, Fz.x_ow, Fz.x_anil, Fz.x_acons, Fz.x_astar, Fz.x_aapp, Fz.x_tru, Fz.x_tbl, Fz.x_tnot, Fz.x_tand, Fz.x_tor, Fz.x_tyes, Fz.x_blO, Fz.x_ubl, Fz.x_uint, Fz.x_unon, Fz.x_utup, Fz.x_ulsv, Fz.x_call, Fz.x_oc, Fz.x_io, Fz.x_put, Fz.x_perm0, Fz.x_def, Fz.x_defF, Fz.x_outs0, Fz.x_outsT, Fz.x_outsF, Fz.x_for, Fz.x_iof, Fz.x_ien, Fz.x_iN, Fz.x_srcT, Fz.x_srcF, Fz.x_srcL, Fz.x_srcS, Fz.x_zip, Fz.x_zipT, Fz.x_en, Fz.x_lc, Fz.x_rest0, Fz.x_restS, Fz.x_rsV, Fz.x_rsN, Fz.x_rsO, Fz.x_some, Fz.x_map, Fz.x_obind, Fz.x_mul, Fz.x_sub, Fz.x_div, Fz.x_mod, Fz.x_pow, Fz.x_shl, Fz.x_shr, Fz.x_andI, Fz.x_cmp, Fz.x_neg, Fz.x_addI, Fz.x_addS, Fz.x_addT, Fz.x_addL, Fz.x_addLL, Fz.x_mulAI, Fz.x_mulAC, Fz.x_mulAL, Fz.x_mulLL, Fz.x_tup, Fz.x_lst, Fz.x_abs, Fz.x_max2, Fz.x_min2, Fz.x_gcd, Fz.x_intI, Fz.x_intB, Fz.x_dm, Fz.x_lenS, Fz.x_lenT, Fz.x_lenF, Fz.x_lenL, Fz.x_ixT, Fz.x_ixF, Fz.x_ixL, Fz.x_ixS, Fz.x_slT, Fz.x_slF, Fz.x_slLs, Fz.x_slS, Fz.x_slLF, Fz.x_slLL, Fz.x_revS, Fz.x_revL, Fz.x_tupleT, Fz.x_tupleF, Fz.x_tupleL, Fz.x_listT, Fz.x_listF, Fz.x_listL, Fz.x_sumL, Fz.x_sumT, Fz.x_sumF, Fz.x_all, Fz.x_any, Fz.x_r1, Fz.x_r2, Fz.x_r3, Fz.x_lr, Fz.x_join, Fz.x_tyS, Fz.x_tyL, Fz.x_eqQ, Fz.x_eqS, Fz.x_neS, Fz.x_eqI, Fz.x_neI, Fz.x_eqB, Fz.x_neB, Fz.x_eqT, Fz.x_neT, Fz.x_eqL, Fz.x_neL, Fz.x_pyI, Fz.x_pyS, Fz.x_pyB, Fz.x_pyN, Fz.x_pyT, Fz.x_pyF, Fz.x_pyL, Fz.x_mp0, Fz.x_mpC, Fz.x_mpO, Fz.x_omap, Fz.x_repr, Fz.x_rp, Fz.x_pyfr, Fz.x_mpfr, Fz.x_mpint, Fz.x_isN, Fz.x_isI, Fz.x_isS, Fz.x_isT, Fz.x_isL, Fz.x_isB, Fz.x_isBB, Fz.x_isfr, Fz.x_inC, Fz.x_ninC, Fz.x_isi1, Fz.x_isi2, Fz.x_isi3, Fz.x_isi4, Fz.x_isi5, Fz.x_isi6, Fz.x_isi7, Fz.x_isi8, Fz.x_isi9, Fz.x_isi10, Fz.x_isi11, Fz.x_isi12, Fz.x_isi13, Fz.x_isi14, Fz.x_isi15, Fz.x_isi16, Fz.x_isi17, Fz.x_isi18, Fz.x_isi19, Fz.x_isi20, Fz.x_ttpf, Fz.x_ixfr0, Fz.x_ixfr1, Fz.x_lenfr, Fz.x_itfr, Fz.x_itT, Fz.x_itL, Fz.x_srcfr, Fz.x_eqfr, Fz.x_nefr, Fz.x_ufr, Fz.x_ll, Fz.x_calll, Fz.x_ienA, Fz.x_enA, Fz.x_enT, Fz.x_rvT, Fz.x_rvS, Fz.x_rvL, Fz.x_rvF, Fz.x_lcm, Fz.if_false', Fz.if_true', Fz.optQ_some, Fz.atI_0, Fz.atI_1, Fz.atI_n, Fz.ixN_0, Fz.ixN_1, Fz.ixN_n, List.set_cons_succ, List.set_cons_zero, List.getElem?_cons_succ, List.getElem?_cons_zero, List.length_cons, List.length_nil, List.map_cons, List.map_nil, List.replicate_succ, List.replicate_zero, List.cons_append, List.nil_append, List.append_assoc, List.append_nil, Fz.permL, List.filterMap_cons, List.filterMap_nil, List.length_set, List.set_set, Nat.reduceAdd, Nat.reduceLT, Nat.reduceLeDiff, Nat.reduceSub, Nat.reduceEqDiff, Int.reduceAdd, Int.reduceToNat, Int.reducePow, decide_eq_true_eq, if_true, if_false, ite_true, ite_false, true_and, and_true, not_false_eq_true, not_true_eq_false, false_and, and_false, Bool.false_eq_true, Bool.true_eq_false, Bool.not_true, Bool.not_false, Fz.cutD_map, Fz.ints_int, List.flatten_cons, List.flatten_nil, Nat.add_assoc, Fz.LINE, Fz.b62, and_assoc, List.all_cons, List.all_nil, Nat.le_refl, Option.map_some, List.cons_beq_cons, Nat.reduceBEq, Nat.reduceBNe, Bool.and_true, Bool.true_and, Bool.false_and, Bool.and_false, beq_self_eq_true, Bool.or_true, Bool.true_or, Bool.or_false, Bool.false_or, Fz.bls_map, List.length_append, List.length_map, List.length_take, List.length_drop, List.length_reverse, List.length_replicate, List.length_range, List.isEmpty_cons, List.isEmpty_nil, Int.reduceNeg, Int.reduceMul, Int.reduceSub, Int.reduceLT, Int.reduceLE, Int.reduceBEq, Int.reduceBNe, Int.reduceNe, Int.reduceEq, decide_true, decide_false, id, List.getElem?_nil, beq_iff_eq, bne_iff_ne, ne_eq, Bool.not_eq_true', Bool.and_eq_true, Bool.or_eq_true, beq_eq_false_iff_ne, Bool.not_eq_false', decide_eq_false_iff_not, Int.not_lt, Int.not_le]
    repeat ((with_reducible refine And.intro ?_ ?_); focus (first | (with_reducible assumption) | ((with_reducible refine (?_ : Fz.mulOk _ _)); first | decide +kernel | exact Fz.Bd.ok (by repeat' (first | (with_reducible assumption) | exact (show Fz.Bd 64 _ by decide) | apply Fz.Bd.mul | apply Fz.Bd.add' | apply Fz.Bd.sub' | apply Fz.Bd.neg)) (by repeat' (first | (with_reducible assumption) | exact (show Fz.Bd 64 _ by decide) | apply Fz.Bd.mul | apply Fz.Bd.add' | apply Fz.Bd.sub' | apply Fz.Bd.neg)) | exact Fz.mul_l (by omega) (by omega) | exact Fz.mul_r (by omega) (by omega)) | ((with_reducible refine (?_ : Fz.divOk _)); first | decide +kernel | exact Fz.dv_s (by omega) (by omega) | exact Fz.Bd.div (by repeat' (first | (with_reducible assumption) | exact (show Fz.Bd 64 _ by decide) | apply Fz.Bd.mul | apply Fz.Bd.add' | apply Fz.Bd.sub' | apply Fz.Bd.neg)) (by omega)) | ((with_reducible refine (?_ : L2.CDiv _ _)); exact ⟨by omega, by omega⟩) | omega | decide +kernel | exact True.intro))
    exact ⟨_, rfl⟩
  · intro m _
    have fin : ∀ v : Int, (if k < (ns.length : Int) then ∃ w, atI (ns.map D.int) k = some w ∧ w = .int v else v = 0) → True := fun _ _ => trivial
    by_cases hl : k < (ns.length : Int)
    · have hx : ∃ v, atI (ns.map D.int) k = some (.int v) := by
        have e : k = ((k.toNat : Nat) : Int) := by omega
        rw [e, Fz.atI_nat, List.getElem?_map, List.getElem?_eq_getElem (show k.toNat < ns.length by omega)]
        exact ⟨_, rfl⟩
      obtain ⟨v, hx⟩ := hx
      simp -implicitDefEqProofs only [Fz.x_ok, Fz.x_stuck, Fz.x_exc, Fz.x_ite, Fz.x_bind, Fz.x_fl, Fz.x_fl0, Fz.x_fite, Fz.x_nx, Fz.x_rt, Fz.x_fst, Fz.x_opt, Fz.x_nil, Fz.x_seq, Fz.x_expr, Fz.x_ret, Fz.x_retN, Fz.x_brk, Fz.x_cnt, Fz.x_qstuck, Fz.x_if, Fz.x_asg, Fz.x_tg, Fz.x_tgn, Fz.x_asgO, Fz.x_co, Fz.x_par2, Fz.x_par3, Fz.x_panil, Fz.x_paE, Fz.x_paF, Fz.x_parO2, Fz.x_parO3, Fz.x_p2, Fz.x_p3, Fz.x_set, Fz.x_setQ, Fz.x_wp, Fz.x_pre, Fz.x_wipe0, Fz.x_wipeS, Fz.x_tnm, Fz.x_tsnil, Fz.x_tscons, Fz.x_ttp, Fz.x_ttl, Fz.x_ttlT, Fz.x_tsb, Fz.x_var, Fz.x_slV, Fz.x_slO, Fz.x_pk, Fz.x_pkV, Fz.x_pkO, Fz.x_c, Fz.x_1, Fz.x_2, Fz.x_2k, Fz.x_n, Fz.x_n1, Fz.x_eif, Fz.x_and, Fz.x_or, Fz.x_not, Fz.x_ch, Fz.x_sl, Fz.x_slL, Fz.x_slk, Fz.x_onone, Fz.x_osome, Fz.x_inO, Fz.x_m, Fz.x_app, Fz.x_ow, Fz.x_anil, Fz.x_acons, Fz.x_astar, Fz.x_aapp, Fz.x_tru, Fz.x_tbl, Fz.x_tnot, Fz.x_tand, Fz.x_tor, Fz.x_tyes, Fz.x_blO, Fz.x_ubl, Fz.x_uint, Fz.x_unon, Fz.x_utup, Fz.x_ulsv, Fz.x_call, Fz.x_oc, Fz.x_io, Fz.x_put, Fz.x_perm0, Fz.x_def, Fz.x_defF, Fz.x_outs0, Fz.x_outsT, Fz.x_outsF, Fz.x_for, Fz.x_iof, Fz.x_ien, Fz.x_iN, Fz.x_srcT, Fz.x_srcF, Fz.x_srcL, Fz.x_srcS, Fz.x_zip, Fz.x_zipT, Fz.x_en, Fz.x_lc, Fz.x_rest0, Fz.x_restS, Fz.x_rsV, Fz.x_rsN, Fz.x_rsO, Fz.x_some, Fz.x_map, Fz.x_obind, Fz.x_mul, Fz.x_sub, Fz.x_div, Fz.x_mod, Fz.x_pow, Fz.x_shl, Fz.x_shr, Fz.x_andI, Fz.x_cmp, Fz.x_neg, Fz.x_addI, Fz.x_addS, Fz.x_addT, Fz.x_addL, Fz.x_addLL, Fz.x_mulAI, Fz.x_mulAC, Fz.x_mulAL, Fz.x_mulLL, Fz.x_tup, Fz.x_lst, Fz.x_abs, Fz.x_max2, Fz.x_min2, Fz.x_gcd, Fz.x_intI, Fz.x_intB, Fz.x_dm, Fz.x_lenS, Fz.x_lenT, Fz.x_lenF, Fz.x_lenL, Fz.x_ixT, Fz.x_ixF, Fz.x_ixL, Fz.x_ixS, Fz.x_slT, Fz.x_slF, Fz.x_slLs, Fz.x_slS, Fz.x_slLF, Fz.x_slLL, Fz.x_revS, Fz.x_revL, Fz.x_tupleT, Fz.x_tupleF, Fz.x_tupleL, Fz.x_listT, Fz.x_listF, Fz.x_listL, Fz.x_sumL, Fz.x_sumT, Fz.x_sumF, Fz.x_all, Fz.x_any, Fz.x_r1, Fz.x_r2, Fz.x_r3, Fz.x_lr, Fz.x_join, Fz.x_tyS, Fz.x_tyL, Fz.x_eqQ, Fz.x_eqS, Fz.x_neS, Fz.x_eqI, Fz.x_neI, Fz.x_eqB, Fz.x_neB, Fz.x_eqT, Fz.x_neT, Fz.x_eqL, Fz.x_neL, Fz.x_pyI, Fz.x_pyS, Fz.x_pyB, Fz.x_pyN, Fz.x_pyT, Fz.x_pyF, Fz.x_pyL, Fz.x_mp0, Fz.x_mpC, Fz.x_mpO, Fz.x_omap, Fz.x_repr, Fz.x_rp, Fz.x_pyfr, Fz.x_mpfr, Fz.x_mpint, Fz.x_isN, Fz.x_isI, Fz.x_isS, Fz.x_isT, Fz.x_isL, Fz.x_isB, Fz.x_isBB, Fz.x_isfr, Fz.x_inC, Fz.x_ninC, Fz.x_isi1, Fz.x_isi2, Fz.x_isi3, Fz.x_isi4, Fz.x_isi5, Fz.x_isi6, Fz.x_isi7, Fz.x_isi8, Fz.x_isi9, Fz.x_isi10, Fz.x_isi11, Fz.x_isi12, Fz.x_isi13, Fz.x_isi14, Fz.x_isi15, Fz.x_isi16, Fz.x_isi17, Fz.x_isi18, Fz.x_isi19, Fz.x_isi20, Fz.x_ttpf, Fz.x_ixfr0, Fz.x_ixfr1, Fz.x_lenfr, Fz.x_itfr, Fz.x_itT, Fz.x_itL, Fz.x_srcfr, Fz.x_eqfr, Fz.x_nefr, Fz.x_ufr, Fz.x_ll, Fz.x_calll, Fz.x_ienA, Fz.x_enA, Fz.x_enT, Fz.x_rvT, Fz.x_rvS, Fz.x_rvL, Fz.x_rvF, Fz.x_lcm, Fz.if_false', Fz.if_true', Fz.optQ_some, Fz.atI_0, Fz.atI_1, Fz.atI_n, Fz.ixN_0, Fz.ixN_1, Fz.ixN_n, List.set_cons_succ, List.set_cons_zero, List.getElem?_cons_succ, List.getElem?_cons_zero, List.length_cons, List.length_nil, List.map_cons, List.map_nil, List.replicate_succ, List.replicate_zero, List.cons_append, List.nil_append, List.append_assoc, List.append_nil, Fz.permL, List.filterMap_cons, List.filterMap_nil, List.length_set, List.set_set, Nat.reduceAdd, Nat.reduceLT, Nat.reduceLeDiff, Nat.reduceSub, Nat.reduceEqDiff, Int.reduceAdd, Int.reduceToNat, Int.reducePow, decide_eq_true_eq, if_true, if_false, ite_true, ite_false, true_and, and_true, not_false_eq_true, not_true_eq_false, false_and, and_false, Bool.false_eq_true, Bool.true_eq_false, Bool.not_true, Bool.not_false, Fz.cutD_map, Fz.ints_int, List.flatten_cons, List.flatten_nil, Nat.add_assoc, Fz.LINE, Fz.b62, and_assoc, List.all_cons, List.all_nil, Nat.le_refl, Option.map_some, List.cons_beq_cons, Nat.reduceBEq, Nat.reduceBNe, Bool.and_true, Bool.true_and, Bool.false_and, Bool.and_false, beq_self_eq_true, Bool.or_true, Bool.true_or, Bool.or_false, Bool.false_or, Fz.bls_map, List.length_append, List.length_map, List.length_take, List.length_drop, List.length_reverse, List.length_replicate, List.length_range, List.isEmpty_cons, List.isEmpty_nil, Int.reduceNeg, Int.reduceMul, Int.reduceSub, Int.reduceLT, Int.reduceLE, Int.reduceBEq, Int.reduceBNe, Int.reduceNe, Int.reduceEq, decide_true, decide_false, id, List.getElem?_nil, beq_iff_eq, bne_iff_ne, ne_eq, Bool.not_eq_true', Bool.and_eq_true, Bool.or_eq_true, beq_eq_false_iff_ne, Bool.not_eq_false', decide_eq_false_iff_not, Int.not_lt, Int.not_le, hl, hx]
      repeat ((with_reducible refine And.intro ?_ ?_); focus (first | (with_reducible assumption) | ((with_reducible refine (?_ : Fz.mulOk _ _)); first | decide +kernel | exact Fz.Bd.ok (by repeat' (first | (with_reducible assumption) | exact (show Fz.Bd 64 _ by decide) | apply Fz.Bd.mul | apply Fz.Bd.add' | apply Fz.Bd.sub' | apply Fz.Bd.neg)) (by repeat' (first | (with_reducible assumption) | exact (show Fz.Bd 64 _ by decide) | apply Fz.Bd.mul | apply Fz.Bd.add' | apply Fz.Bd.sub' | apply Fz.Bd.neg)) | exact Fz.mul_l (by omega) (by omega) | exact Fz.mul_r (by omega) (by omega)) | ((with_reducible refine (?_ : Fz.divOk _)); first | decide +kernel | exact Fz.dv_s (by omega) (by omega) | exact Fz.Bd.div (by repeat' (first | (with_reducible assumption) | exact (show Fz.Bd 64 _ by decide) | apply Fz.Bd.mul | apply Fz.Bd.add' | apply Fz.Bd.sub' | apply Fz.Bd.neg)) (by omega)) | ((with_reducible refine (?_ : L2.CDiv _ _)); exact ⟨by omega, by omega⟩) | omega | decide +kernel | exact True.intro))
      split
      · exact ⟨_, _, _, rfl⟩
      · repeat ((with_reducible refine And.intro ?_ ?_); focus (first | (with_reducible assumption) | ((with_reducible refine (?_ : Fz.mulOk _ _)); first | decide +kernel | exact Fz.Bd.ok (by repeat' (first | (with_reducible assumption) | exact (show Fz.Bd 64 _ by decide) | apply Fz.Bd.mul | apply Fz.Bd.add' | apply Fz.Bd.sub' | apply Fz.Bd.neg)) (by repeat' (first | (with_reducible assumption) | exact (show Fz.Bd 64 _ by decide) | apply Fz.Bd.mul | apply Fz.Bd.add' | apply Fz.Bd.sub' | apply Fz.Bd.neg)) | exact Fz.mul_l (by omega) (by omega) | exact Fz.mul_r (by omega) (by omega)) | ((with_reducible refine (?_ : Fz.divOk _)); first | decide +kernel | exact Fz.dv_s (by omega) (by omega) | exact Fz.Bd.div (by repeat' (first | (with_reducible assumption) | exact (show Fz.Bd 64 _ by decide) | apply Fz.Bd.mul | apply Fz.Bd.add' | apply Fz.Bd.sub' | apply Fz.Bd.neg)) (by omega)) | ((with_reducible refine (?_ : L2.CDiv _ _)); exact ⟨by omega, by omega⟩) | omega | decide +kernel | exact True.intro))
        split
        · exact ⟨_, _, _, rfl⟩
        · exact ⟨_, _, _, rfl⟩
    · simp -implicitDefEqProofs only [Fz.x_ok, Fz.x_stuck, Fz.x_exc, Fz.x_ite, Fz.x_bind, Fz.x_fl, Fz.x_fl0, Fz.x_fite, Fz.x_nx, Fz.x_rt, Fz.x_fst, Fz.x_opt, Fz.x_nil, Fz.x_seq, Fz.x_expr, Fz.x_ret, Fz.x_retN, Fz.x_brk, Fz.x_cnt, Fz.x_qstuck, Fz.x_if, Fz.x_asg, Fz.x_tg, Fz.x_tgn, Fz.x_asgO, Fz.x_co, Fz.x_par2, Fz.x_par3, Fz.x_panil, Fz.x_paE, Fz.x_paF, Fz.x_parO2, Fz.x_parO3, Fz.x_p2, Fz.x_p3, Fz.x_set, Fz.x_setQ, Fz.x_wp, Fz.x_pre, Fz.x_wipe0, Fz.x_wipeS, Fz.x_tnm, Fz.x_tsnil, Fz.x_tscons, Fz.x_ttp, Fz.x_ttl, Fz.x_ttlT, Fz.x_tsb, Fz.x_var, Fz.x_slV, Fz.x_slO, Fz.x_pk, Fz.x_pkV, Fz.x_pkO, Fz.x_c, Fz.x_1, Fz.x_2, Fz.x_2k, Fz.x_n, Fz.x_n1, Fz.x_eif, Fz.x_and, Fz.x_or, Fz.x_not, Fz.x_ch, Fz.x_sl, Fz.x_slL, Fz.x_slk, Fz.x_onone, Fz.x_osome, Fz.x_inO, Fz.x_m, Fz.x_app, Fz.x_ow, Fz.x_anil, Fz.x_acons, Fz.x_astar, Fz.x_aapp, Fz.x_tru, Fz.x_tbl, Fz.x_tnot, Fz.x_tand, Fz.x_tor, Fz.x_tyes, Fz.x_blO, Fz.x_ubl, Fz.x_uint, Fz.x_unon, Fz.x_utup, Fz.x_ulsv, Fz.x_call, Fz.x_oc, Fz.x_io, Fz.x_put, Fz.x_perm0, Fz.x_def, Fz.x_defF, Fz.x_outs0, Fz.x_outsT, Fz.x_outsF, Fz.x_for, Fz.x_iof, Fz.x_ien, Fz.x_iN, Fz.x_srcT, Fz.x_srcF, Fz.x_srcL, Fz.x_srcS, Fz.x_zip, Fz.x_zipT, Fz.x_en, Fz.x_lc, Fz.x_rest0, Fz.x_restS, Fz.x_rsV, Fz.x_rsN, Fz.x_rsO, Fz.x_some, Fz.x_map, Fz.x_obind, Fz.x_mul, Fz.x_sub, Fz.x_div, Fz.x_mod, Fz.x_pow, Fz.x_shl, Fz.x_shr, Fz.x_andI, Fz.x_cmp, Fz.x_neg, Fz.x_addI, Fz.x_addS, Fz.x_addT, Fz.x_addL, Fz.x_addLL, Fz.x_mulAI, Fz.x_mulAC, Fz.x_mulAL, Fz.x_mulLL, Fz.x_tup, Fz.x_lst, Fz.x_abs, Fz.x_max2, Fz.x_min2, Fz.x_gcd, Fz.x_intI, Fz.x_intB, Fz.x_dm, Fz.x_lenS, Fz.x_lenT, Fz.x_lenF, Fz.x_lenL, Fz.x_ixT, Fz.x_ixF, Fz.x_ixL, Fz.x_ixS, Fz.x_slT, Fz.x_slF, Fz.x_slLs, Fz.x_slS, Fz.x_slLF, Fz.x_slLL, Fz.x_revS, Fz.x_revL, Fz.x_tupleT, Fz.x_tupleF, Fz.x_tupleL, Fz.x_listT, Fz.x_listF, Fz.x_listL, Fz.x_sumL, Fz.x_sumT, Fz.x_sumF, Fz.x_all, Fz.x_any, Fz.x_r1, Fz.x_r2, Fz.x_r3, Fz.x_lr, Fz.x_join, Fz.x_tyS, Fz.x_tyL, Fz.x_eqQ, Fz.x_eqS, Fz.x_neS, Fz.x_eqI, Fz.x_neI, Fz.x_eqB, Fz.x_neB, Fz.x_eqT, Fz.x_neT, Fz.x_eqL, Fz.x_neL, Fz.x_pyI, Fz.x_pyS, Fz.x_pyB, Fz.x_pyN, Fz.x_pyT, Fz.x_pyF, Fz.x_pyL, Fz.x_mp0, Fz.x_mpC, Fz.x_mpO, Fz.x_omap, Fz.x_repr, Fz.x_rp, Fz.x_pyfr, Fz.x_mpfr, Fz.x_mpint, Fz.x_isN, Fz.x_isI, Fz.x_isS, Fz.x_isT, Fz.x_isL, Fz.x_isB, Fz.x_isBB, Fz.x_isfr, Fz.x_inC, Fz.x_ninC, Fz.x_isi1, Fz.x_isi2, Fz.x_isi3, Fz.x_isi4, Fz.x_isi5, Fz.x_isi6, Fz.x_isi7, Fz.x_isi8, Fz.x_isi9, Fz.x_isi10, Fz.x_isi11, Fz.x_isi12, Fz.x_isi13, Fz.x_isi14, Fz.x_isi15, Fz.x_isi16, Fz.x_isi17, Fz.x_isi18, Fz.x_isi19, Fz.x_isi20, Fz.x_ttpf, Fz.x_ixfr0, Fz.x_ixfr1, Fz.x_lenfr, Fz.x_itfr, Fz.x_itT, Fz.x_itL, Fz.x_srcfr, Fz.x_eqfr, Fz.x_nefr, Fz.x_ufr, Fz.x_ll, Fz.x_calll, Fz.x_ienA, Fz.x_enA, Fz.x_enT, Fz.x_rvT, Fz.x_rvS, Fz.x_rvL, Fz.x_rvF, Fz.x_lcm, Fz.if_false', Fz.if_true', Fz.optQ_some, Fz.atI_0, Fz.atI_1, Fz.atI_n, Fz.ixN_0, Fz.ixN_1, Fz.ixN_n, List.set_cons_succ, List.set_cons_zero, List.getElem?_cons_succ, List.getElem?_cons_zero, List.length_cons, List.length_nil, List.map_cons, List.map_nil, List.replicate_succ, List.replicate_zero, List.cons_append, List.nil_append, List.append_assoc, List.append_nil, Fz.permL, List.filterMap_cons, List.filterMap_nil, List.length_set, List.set_set, Nat.reduceAdd, Nat.reduceLT, Nat.reduceLeDiff, Nat.reduceSub, Nat.reduceEqDiff, Int.reduceAdd, Int.reduceToNat, Int.reducePow, decide_eq_true_eq, if_true, if_false, ite_true, ite_false, true_and, and_true, not_false_eq_true, not_true_eq_false, false_and, and_false, Bool.false_eq_true, Bool.true_eq_false, Bool.not_true, Bool.not_false, Fz.cutD_map, Fz.ints_int, List.flatten_cons, List.flatten_nil, Nat.add_assoc, Fz.LINE, Fz.b62, and_assoc, List.all_cons, List.all_nil, Nat.le_refl, Option.map_some, List.cons_beq_cons, Nat.reduceBEq, Nat.reduceBNe, Bool.and_true, Bool.true_and, Bool.false_and, Bool.and_false, beq_self_eq_true, Bool.or_true, Bool.true_or, Bool.or_false, Bool.false_or, Fz.bls_map, List.length_append, List.length_map, List.length_take, List.length_drop, List.length_reverse, List.length_replicate, List.length_range, List.isEmpty_cons, List.isEmpty_nil, Int.reduceNeg, Int.reduceMul, Int.reduceSub, Int.reduceLT, Int.reduceLE, Int.reduceBEq, Int.reduceBNe, Int.reduceNe, Int.reduceEq, decide_true, decide_false, id, List.getElem?_nil, beq_iff_eq, bne_iff_ne, ne_eq, Bool.not_eq_true', Bool.and_eq_true, Bool.or_eq_true, beq_eq_false_iff_ne, Bool.not_eq_false', decide_eq_false_iff_not, Int.not_lt, Int.not_le, hl]
      repeat ((with_reducible refine And.intro ?_ ?_); focus (first | (with_reducible assumption) | ((with_reducible refine (?_ : Fz.mulOk _ _)); first | decide +kernel | exact Fz.Bd.ok (by repeat' (first | (with_reducible assumption) | exact (show Fz.Bd 64 _ by decide) | apply Fz.Bd.mul | apply Fz.Bd.add' | apply Fz.Bd.sub' | apply Fz.Bd.neg)) (by repeat' (first | (with_reducible assumption) | exact (show Fz.Bd 64 _ by decide) | apply Fz.Bd.mul | apply Fz.Bd.add' | apply Fz.Bd.sub' | apply Fz.Bd.neg)) | exact Fz.mul_l (by omega) (by omega) | exact Fz.mul_r (by omega) (by omega)) | ((with_reducible refine (?_ : Fz.divOk _)); first | decide +kernel | exact Fz.dv_s (by omega) (by omega) | exact Fz.Bd.div (by repeat' (first | (with_reducible assumption) | exact (show Fz.Bd 64 _ by decide) | apply Fz.Bd.mul | apply Fz.Bd.add' | apply Fz.Bd.sub' | apply Fz.Bd.neg)) (by omega)) | ((with_reducible refine (?_ : L2.CDiv _ _)); exact ⟨by omega, by omega⟩) | omega | decide +kernel | exact True.intro))
      exact ⟨_, _, _, rfl⟩
def nfr (a b : Nat) : D := fr ((a : Int), (b : Int))
theorem strs_str (ws : List (List Nat)) : strsOf (ws.map D.str) = some ws := by
  induction ws with
  | nil => rfl
  | cons w ws ih => simp only [List.map_cons, strsOf, ih]; rfl
theorem join_flat (ws : List (List Nat)) : TL.joinL [] ws = ws.flatten := by
  induction ws with
  | nil => rfl
  | cons w ws ih =>
    cases ws with
    | nil => simp [TL.joinL]
    | cons v ws => rw [TL.joinL, ih]; rfl
theorem flat_len (ws : List (List Nat)) : (ws.map (·.length)).sum = ws.flatten.length := by rw [List.length_flatten]
theorem cut_init {α : Type} (z : List α) : Fz.cutD z none (some (-1)) = z.dropLast := by
  have e1 : HT.sIx z.length z.length (some (-1)) = z.length - 1 := sIx_neg z.length z.length 1 (by omega)
  have e2 : HT.sIx z.length 0 none = 0 := rfl
  unfold Fz.cutD
  rw [e1, e2, List.drop_zero, List.dropLast_eq_take]; rfl
theorem cut_to {α : Type} (z : List α) (k : Nat) : Fz.cutD z none (some (k : Int)) = z.take k := by
  have e1 : HT.sIx z.length z.length (some (k : Int)) = min k z.length := by
    show (if ((k : Int)) < 0 then ((k : Int) + (z.length : Int)).toNat else min ((k : Int)).toNat z.length) = _
    rw [if_neg (by omega)]; simp
  have e2 : HT.sIx z.length 0 none = 0 := rfl
  unfold Fz.cutD
  rw [e1, e2, List.drop_zero, Nat.sub_zero]
  rcases Nat.le_total k z.length with h | h
  · rw [Nat.min_eq_left h]
  · rw [Nat.min_eq_right h, List.take_length, List.take_of_length_le h]
def nI (l : List Nat) : List D := l.map fun (n : Nat) => D.int (n : Int)
theorem nI_ints (l : List Nat) : intsOf (nI l) = some (l.map fun (n : Nat) => (n : Int)) := by unfold nI; rw [Fz.ints_map]
theorem sum_cast (l : List Nat) : (l.map fun (n : Nat) => (n : Int)).sum = (l.sum : Nat) := by
  induction l with
  | nil => rfl
  | cons a l ih => rw [List.map_cons, List.sum_cons, ih, List.sum_cons]; push_cast; rfl
theorem nI_at {l : List Nat} {k : Nat} (h : k < l.length) : atI (nI l) (k : Int) = some (.int (l[k] : Nat)) := by
  unfold nI; rw [Fz.atI_nat, List.getElem?_map, List.getElem?_eq_getElem h]; rfl
theorem nI_py (n : Nat) (l : List Nat) : mapO (toPy [] (n + 1)) (nI l) = some (l.map fun (k : Nat) => PyData.int (k : Int)) := by
  unfold nI
  have := Fz.x_mpint n (l.map fun (k : Nat) => (k : Int))
  rw [List.map_map, List.map_map] at this
  exact this
theorem nI_sh {N L : Nat} {l : List Nat} (h : ∀ c ∈ l, c < 2 ^ N) (hl : l.length ≤ L) (hN : 0 < N ∧ N ≤ 1900 := by decide) : Shs 0 (L * (N + 2 + 2)) (l.map fun (k : Nat) => PyData.int (k : Int)) :=
  Shs.mapL L (fun c hc => Sh.nat (h c hc) hN) hl
theorem nI_len (l : List Nat) : (nI l).length = l.length := by unfold nI; rw [List.length_map]
theorem nfr_py (n a b : Nat) : toPy [] (n + 2) (nfr a b) = some (pf ((a : Int), (b : Int))) := rfl
theorem nfr_sh {a b : Nat} (n : Nat) (h1 : a < 2 ^ n) (h2 : b < 2 ^ n) (hn : 0 < n ∧ n ≤ 1900 := by decide) : Sh 1 (2 * n + 11) (pf ((a : Int), (b : Int))) := Sh.fr (n := n) (show (a : Int).natAbs < 2 ^ n by omega) (show (b : Int).natAbs < 2 ^ n by omega) hn
theorem nfr_ne (a b : Nat) {Q : D → Prop} : optQ (wNe (nfr a b) (nfr a b)) Q = Q (.bl false) := by
  unfold nfr; rw [Fz.x_nefr]; simp
theorem nfr_eq (a b : Nat) {Q : D → Prop} : optQ (wEq (nfr a b) (nfr a b)) Q = Q (.bl true) := by
  unfold nfr; rw [Fz.x_eqfr]; simp
theorem ite_of {c A B : Prop} [Decidable c] (h : B) (k : c → B → A) : if c then A else B := by
  by_cases hc : c
  · rw [if_pos hc]; exact k hc h
  · rw [if_neg hc]; exact h
theorem is_row_eq {ds : List D} {a b : Int} : G_is_row [.vl (.tup ds), .vl (.int a), .vl (.int b)] = .ok (.bl (decide (a ≤ ds.length) && decide ((ds.length : Int) ≤ b))) [.no, .no, .no] := gsat_eq (by
  unfold G_is_row g_is_row
  simp -implicitDefEqProofs only [Fz.x_ok, Fz.x_stuck, Fz.x_exc, Fz.x_ite, Fz.x_bind, Fz.x_fl, Fz.x_fl0, Fz.x_fite, Fz.x_nx, Fz.x_rt, Fz.x_fst, Fz.x_opt, Fz.x_nil, Fz.x_seq, Fz.x_expr, Fz.x_ret, Fz.x_retN, Fz.x_brk, Fz.x_cnt, Fz.x_qstuck, Fz.x_if, Fz.x_asg, Fz.x_tg, Fz.x_tgn, Fz.x_asgO, Fz.x_co, Fz.x_par2, Fz.x_par3, Fz.x_panil, Fz.x_paE, Fz.x_paF, Fz.x_parO2, Fz.x_parO3, Fz.x_p2, Fz.x_p3, Fz.x_set, Fz.x_setQ, Fz.x_wp, Fz.x_pre, Fz.x_wipe0, Fz.x_wipeS, Fz.x_tnm, Fz.x_tsnil, Fz.x_tscons, Fz.x_ttp, Fz.x_ttl, Fz.x_ttlT, Fz.x_tsb, Fz.x_var, Fz.x_slV, Fz.x_slO, Fz.x_pk, Fz.x_pkV, Fz.x_pkO, Fz.x_c, Fz.x_1, Fz.x_2, Fz.x_2k, Fz.x_n, Fz.x_n1, Fz.x_eif, Fz.x_and, Fz.x_or, Fz.x_not, Fz.x_ch, Fz.x_sl, Fz.x_slL, Fz.x_slk, Fz.x_onone, Fz.x_osome, Fz.x_inO, Fz.x_m, Fz.x_app, Fz.x_ow, Fz.x_anil, Fz.x_acons, Fz.x_astar, Fz.x_aapp, Fz.x_tru, Fz.x_tbl, Fz.x_tnot, Fz.x_tand, Fz.x_tor, Fz.x_tyes, Fz.x_blO, Fz.x_ubl, Fz.x_uint, Fz.x_unon, Fz.x_utup, Fz.x_ulsv, Fz.x_call, Fz.x_oc, Fz.x_io, Fz.x_put, Fz.x_perm0, Fz.x_def, Fz.x_defF, Fz.x_outs0, Fz.x_outsT, Fz.x_outsF, Fz.x_for, Fz.x_iof, Fz.x_ien, Fz.x_iN, Fz.x_srcT, Fz.x_srcF, Fz.x_srcL, Fz.x_srcS, Fz.x_zip, Fz.x_zipT, Fz.x_en, Fz.x_lc, Fz.x_rest0, Fz.x_restS, Fz.x_rsV, Fz.x_rsN, Fz.x_rsO, Fz.x_some, Fz.x_map, Fz.x_obind, Fz.x_mul, Fz.x_sub, Fz.x_div, Fz.x_mod, Fz.x_pow, Fz.x_shl, Fz.x_shr, Fz.x_andI, Fz.x_cmp, Fz.x_neg, Fz.x_addI, Fz.x_addS, Fz.x_addT, Fz.x_addL, Fz.x_addLL, Fz.x_mulAI, Fz.x_mulAC, Fz.x_mulAL, Fz.x_mulLL, Fz.x_tup, Fz.x_lst, Fz.x_abs, Fz.x_max2, Fz.x_min2, Fz.x_gcd, Fz.x_intI, Fz.x_intB, Fz.x_dm, Fz.x_lenS, Fz.x_lenT, Fz.x_lenF, Fz.x_lenL, Fz.x_ixT, Fz.x_ixF, Fz.x_ixL, Fz.x_ixS, Fz.x_slT, Fz.x_slF, Fz.x_slLs, Fz.x_slS, Fz.x_slLF, Fz.x_slLL, Fz.x_revS, Fz.x_revL, Fz.x_tupleT, Fz.x_tupleF, Fz.x_tupleL, Fz.x_listT, Fz.x_listF, Fz.x_listL, Fz.x_sumL, Fz.x_sumT, Fz.x_sumF, Fz.x_all, Fz.x_any, Fz.x_r1, Fz.x_r2, Fz.x_r3, Fz.x_lr, Fz.x_join, Fz.x_tyS, Fz.x_tyL, Fz.x_eqQ, Fz.x_eqS, Fz.x_neS, Fz.x_eqI, Fz.x_neI, Fz.x_eqB, Fz.x_neB, Fz.x_eqT, Fz.x_neT, Fz.x_eqL, Fz.x_neL, Fz.x_pyI, Fz.x_pyS, Fz.x_pyB, Fz.x_pyN, Fz.x_pyT, Fz.x_pyF, Fz.x_pyL, Fz.x_mp0, Fz.x_mpC, Fz.x_mpO, Fz.x_omap, Fz.x_repr, Fz.x_rp, Fz.x_pyfr, Fz.x_mpfr, Fz.x_mpint, Fz.x_isN, Fz.x_isI, Fz.x_isS, Fz.x_isT, Fz.x_isL, Fz.x_isB, Fz.x_isBB, Fz.x_isfr, Fz.x_inC, Fz.x_ninC, Fz.x_isi1, Fz.x_isi2, Fz.x_isi3, Fz.x_isi4, Fz.x_isi5, Fz.x_isi6, Fz.x_isi7, Fz.x_isi8, Fz.x_isi9, Fz.x_isi10, Fz.x_isi11, Fz.x_isi12, Fz.x_isi13, Fz.x_isi14, Fz.x_isi15, Fz.x_isi16, Fz.x_isi17, Fz.x_isi18, Fz.x_isi19, Fz.x_isi20, Fz.x_ttpf, Fz.x_ixfr0, Fz.x_ixfr1, Fz.x_lenfr, Fz.x_itfr, Fz.x_itT, Fz.x_itL, Fz.x_srcfr, Fz.x_eqfr, Fz.x_nefr, Fz.x_ufr, Fz.x_ll, Fz.x_calll, Fz.x_ienA, Fz.x_enA, Fz.x_enT, Fz.x_rvT, Fz.x_rvS, Fz.x_rvL, Fz.x_rvF, Fz.x_lcm, Fz.if_false', Fz.if_true', Fz.optQ_some, Fz.atI_0, Fz.atI_1, Fz.atI_n, Fz.ixN_0, Fz.ixN_1, Fz.ixN_n, List.set_cons_succ, List.set_cons_zero, List.getElem?_cons_succ, List.getElem?_cons_zero, List.length_cons, List.length_nil, List.map_cons, List.map_nil, List.replicate_succ, List.replicate_zero, List.cons_append, List.nil_append, List.append_assoc, List.append_nil, Fz.permL, List.filterMap_cons, List.filterMap_nil, List.length_set, List.set_set, Nat.reduceAdd, Nat.reduceLT, Nat.reduceLeDiff, Nat.reduceSub, Nat.reduceEqDiff, Int.reduceAdd, Int.reduceToNat, Int.reducePow, decide_eq_true_eq, if_true, if_false, ite_true, ite_false, true_and, and_true, not_false_eq_true, not_true_eq_false, false_and, and_false, Bool.false_eq_true, Bool.true_eq_false, Bool.not_true, Bool.not_false, Fz.cutD_map, Fz.ints_int, List.flatten_cons, List.flatten_nil, Nat.add_assoc, Fz.LINE, Fz.b62, and_assoc, List.all_cons, List.all_nil, Nat.le_refl, Option.map_some, List.cons_beq_cons, Nat.reduceBEq, Nat.reduceBNe, Bool.and_true, Bool.true_and, Bool.false_and, Bool.and_false, beq_self_eq_true, Bool.or_true, Bool.true_or, Bool.or_false, Bool.false_or, Fz.bls_map, List.length_append, List.length_map, List.length_take, List.length_drop, List.length_reverse, List.length_replicate, List.length_range, List.isEmpty_cons, List.isEmpty_nil, Int.reduceNeg, Int.reduceMul, Int.reduceSub, Int.reduceLT, Int.reduceLE, Int.reduceBEq, Int.reduceBNe, Int.reduceNe, Int.reduceEq, decide_true, decide_false, id, List.getElem?_nil, beq_iff_eq, bne_iff_ne, ne_eq, Bool.not_eq_true', Bool.and_eq_true, Bool.or_eq_true, beq_eq_false_iff_ne, Bool.not_eq_false', decide_eq_false_iff_not, Int.not_lt, Int.not_le]
  by_cases h : a ≤ (ds.length : Int) <;> simp [h])
def lcmL (l : List Nat) : Nat := l.foldl Nat.lcm 1
theorem foldl_lcm : ∀ (l : List Nat) (a : Nat), l.foldl Nat.lcm a = Nat.lcm a (lcmL l)
  | [], a => by simp [lcmL]
  | c :: l, a => by
    unfold lcmL
    rw [List.foldl_cons, List.foldl_cons, foldl_lcm l (Nat.lcm a c), foldl_lcm l (Nat.lcm 1 c), Nat.lcm_one_left, Nat.lcm_assoc]
theorem lcmL_cons (c : Nat) (l : List Nat) : lcmL (c :: l) = Nat.lcm c (lcmL l) := by
  conv => lhs; unfold lcmL
  rw [List.foldl_cons, foldl_lcm, Nat.lcm_one_left]
theorem lcmL_append : ∀ l m : List Nat, lcmL (l ++ m) = Nat.lcm (lcmL l) (lcmL m)
  | [], m => by simp [lcmL]
  | c :: l, m => by rw [List.cons_append, lcmL_cons, lcmL_append l m, lcmL_cons, Nat.lcm_assoc]
theorem lcmL_reverse : ∀ l : List Nat, lcmL l.reverse = lcmL l
  | [] => rfl
  | c :: l => by rw [List.reverse_cons, lcmL_append, lcmL_reverse l, lcmL_cons c l, lcmL_cons c [], show lcmL [] = 1 from rfl, Nat.lcm_one_right, Nat.lcm_comm]
theorem dvd_lcmL : ∀ {l : List Nat} {c : Nat}, c ∈ l → c ∣ lcmL l
  | d :: l, c, h => by
    rw [lcmL_cons]
    rcases List.mem_cons.mp h with rfl | h
    · exact Nat.dvd_lcm_left _ _
    · exact Nat.dvd_trans (dvd_lcmL h) (Nat.dvd_lcm_right _ _)
theorem lcmL_pos : ∀ {l : List Nat}, (∀ c ∈ l, 0 < c) → 0 < lcmL l
  | [], _ => by decide
  | c :: l, h => by
    rw [lcmL_cons]
    exact Nat.lcm_pos (h c List.mem_cons_self) (lcmL_pos fun d hd => h d (List.mem_cons_of_mem _ hd))
theorem lcm_le_mul {a b : Nat} (ha : 0 < a) (hb : 0 < b) : Nat.lcm a b ≤ a * b := Nat.le_of_dvd (Nat.mul_pos ha hb) (Nat.lcm_dvd (Nat.dvd_mul_right _ _) (Nat.dvd_mul_left _ _))
theorem lcmL_le : ∀ {l : List Nat}, (∀ c ∈ l, 0 < c ∧ c ≤ 99) → lcmL l ≤ 99 ^ l.length
  | [], _ => by decide
  | c :: l, h => by
    have ih := lcmL_le fun d hd => h d (List.mem_cons_of_mem _ hd)
    have hc := h c List.mem_cons_self
    have hp := lcmL_pos (l := l) fun d hd => (h d (List.mem_cons_of_mem _ hd)).1
    rw [lcmL_cons, List.length_cons, Nat.pow_succ]
    have := lcm_le_mul hc.1 hp
    have h2 : c * lcmL l ≤ 99 * 99 ^ l.length := Nat.mul_le_mul hc.2 ih
    omega
theorem lcmL_64 {l : List Nat} (h : ∀ c ∈ l, 0 < c ∧ c ≤ 99) (hl : l.length ≤ 8) : lcmL l < 2 ^ 60 := by
  have h1 := lcmL_le h
  have h2 : 99 ^ l.length ≤ 99 ^ 8 := Nat.pow_le_pow_right (by decide) hl
  have h3 : (99 : Nat) ^ 8 < 2 ^ 60 := by decide
  omega
theorem take_all {P : Nat → Prop} {l : List Nat} (h : ∀ c ∈ l, P c) (k : Nat) : ∀ c ∈ l.take k, P c := fun c hc => h c (List.mem_of_mem_take hc)
theorem lcmL_take {l : List Nat} {i : Nat} (hi : i < l.length) : lcmL (l.take (i + 1)) = Nat.lcm (lcmL (l.take i)) l[i] := by
  rw [List.take_add_one, List.getElem?_eq_getElem hi, lcmL_append]
  simp only [Option.toList_some]
  rw [lcmL_cons, show lcmL [] = 1 from rfl, Nat.lcm_one_right]
theorem red_swap {a b : Int} : red b a = ((red a b).2, (red a b).1) := by
  unfold red gI; rw [Nat.gcd_comm]
theorem ne_same {w : D} {p : PyData} {Q : D → Prop} (h : toPy [] 40 w = some p) (hw : ∀ x, w ≠ .str x) (s : SeqAt.shaped p = true) (nd : p.hasDict = false) : optQ (wNe w w) Q = Q (.bl false) := by
  unfold wNe; rw [eqW _ _ _ fun x y z => absurd z (hw x), h, Fz.x_eqQ, eqv_self p nd]
  simp [s]
abbrev wheels (l : List Nat) : Prop := (∀ c ∈ l, 6 ≤ c ∧ c ≤ 99) ∧ 2 ≤ l.length ∧ l.length ≤ 8
theorem wheels.rev {l : List Nat} (h : wheels l) : wheels l.reverse := ⟨fun c hc => h.1 c (by simpa using hc), by simpa using h.2.1, by simpa using h.2.2⟩
theorem nI_rev (l : List Nat) : (nI l).reverse = nI l.reverse := by unfold nI; rw [List.map_reverse]
theorem nI_0 {l : List Nat} (h : l ≠ []) : (nI l)[0]? = some (.int (l.head h : Nat)) := by
  cases l with
  | nil => exact absurd rfl h
  | cons a l => rfl
theorem nI_last {l : List Nat} (ne : l ≠ []) : atI (nI l) (-1) = some (.int (l.getLast ne : Nat)) := by
  have ne' : nI l ≠ [] := by unfold nI; simpa using ne
  rw [Fz.at_last ne']
  congr 1
  exact List.getLast_map (f := fun (n : Nat) => D.int (n : Int)) ne'
theorem L_ww_eq {c : Nat} (h : 6 ≤ c ∧ c ≤ 99) (d : D) : G_L_wrong_wheel [.vl (.int (c : Int)), .vl d] = .ok (.bl true) [.no, .no] := gsat_eq (by
  have a1 : (6 : Int) ≤ (c : Int) := by omega
  have a2 : (c : Int) ≤ 99 := by omega
  unfold G_L_wrong_wheel g_L_wrong_wheel
  simp -implicitDefEqProofs only [Fz.x_ok, Fz.x_stuck, Fz.x_exc, Fz.x_ite, Fz.x_bind, Fz.x_fl, Fz.x_fl0, Fz.x_fite, Fz.x_nx, Fz.x_rt, Fz.x_fst, Fz.x_opt, Fz.x_nil, Fz.x_seq, Fz.x_expr, Fz.x_ret, Fz.x_retN, Fz.x_brk, Fz.x_cnt, Fz.x_qstuck, Fz.x_if, Fz.x_asg, Fz.x_tg, Fz.x_tgn, Fz.x_asgO, Fz.x_co, Fz.x_par2, Fz.x_par3, Fz.x_panil, Fz.x_paE, Fz.x_paF, Fz.x_parO2, Fz.x_parO3, Fz.x_p2, Fz.x_p3, Fz.x_set, Fz.x_setQ, Fz.x_wp, Fz.x_pre, Fz.x_wipe0, Fz.x_wipeS, Fz.x_tnm, Fz.x_tsnil, Fz.x_tscons, Fz.x_ttp, Fz.x_ttl, Fz.x_ttlT, Fz.x_tsb, Fz.x_var, Fz.x_slV, Fz.x_slO, Fz.x_pk, Fz.x_pkV, Fz.x_pkO, Fz.x_c, Fz.x_1, Fz.x_2, Fz.x_2k, Fz.x_n, Fz.x_n1, Fz.x_eif, Fz.x_and, Fz.x_or, Fz.x_not, Fz.x_ch, Fz.x_sl, Fz.x_slL, Fz.x_slk, Fz.x_onone, Fz.x_osome, Fz.x_inO, Fz.x_m, Fz.x_app, Fz.x_ow, Fz.x_anil, Fz.x_acons, Fz.x_astar, Fz.x_aapp, Fz.x_tru, Fz.x_tbl, Fz.x_tnot, Fz.x_tand, Fz.x_tor, Fz.x_tyes, Fz.x_blO, Fz.x_ubl, Fz.x_uint, Fz.x_unon, Fz.x_utup, Fz.x_ulsv, Fz.x_call, Fz.x_oc, Fz.x_io, Fz.x_put, Fz.x_perm0, Fz.x_def, Fz.x_defF, Fz.x_outs0, Fz.x_outsT, Fz.x_outsF, Fz.x_for, Fz.x_iof, Fz.x_ien, Fz.x_iN, Fz.x_srcT, Fz.x_srcF, Fz.x_srcL, Fz.x_srcS, Fz.x_zip, Fz.x_zipT, Fz.x_en, Fz.x_lc, Fz.x_rest0, Fz.x_restS, Fz.x_rsV, Fz.x_rsN, Fz.x_rsO, Fz.x_some, Fz.x_map, Fz.x_obind, Fz.x_mul, Fz.x_sub, Fz.x_div, Fz.x_mod, Fz.x_pow, Fz.x_shl, Fz.x_shr, Fz.x_andI, Fz.x_cmp, Fz.x_neg, Fz.x_addI, Fz.x_addS, Fz.x_addT, Fz.x_addL, Fz.x_addLL, Fz.x_mulAI, Fz.x_mulAC, Fz.x_mulAL, Fz.x_mulLL, Fz.x_tup, Fz.x_lst, Fz.x_abs, Fz.x_max2, Fz.x_min2, Fz.x_gcd, Fz.x_intI, Fz.x_intB, Fz.x_dm, Fz.x_lenS, Fz.x_lenT, Fz.x_lenF, Fz.x_lenL, Fz.x_ixT, Fz.x_ixF, Fz.x_ixL, Fz.x_ixS, Fz.x_slT, Fz.x_slF, Fz.x_slLs, Fz.x_slS, Fz.x_slLF, Fz.x_slLL, Fz.x_revS, Fz.x_revL, Fz.x_tupleT, Fz.x_tupleF, Fz.x_tupleL, Fz.x_listT, Fz.x_listF, Fz.x_listL, Fz.x_sumL, Fz.x_sumT, Fz.x_sumF, Fz.x_all, Fz.x_any, Fz.x_r1, Fz.x_r2, Fz.x_r3, Fz.x_lr, Fz.x_join, Fz.x_tyS, Fz.x_tyL, Fz.x_eqQ, Fz.x_eqS, Fz.x_neS, Fz.x_eqI, Fz.x_neI, Fz.x_eqB, Fz.x_neB, Fz.x_eqT, Fz.x_neT, Fz.x_eqL, Fz.x_neL, Fz.x_pyI, Fz.x_pyS, Fz.x_pyB, Fz.x_pyN, Fz.x_pyT, Fz.x_pyF, Fz.x_pyL, Fz.x_mp0, Fz.x_mpC, Fz.x_mpO, Fz.x_omap, Fz.x_repr, Fz.x_rp, Fz.x_pyfr, Fz.x_mpfr, Fz.x_mpint, Fz.x_isN, Fz.x_isI, Fz.x_isS, Fz.x_isT, Fz.x_isL, Fz.x_isB, Fz.x_isBB, Fz.x_isfr, Fz.x_inC, Fz.x_ninC, Fz.x_isi1, Fz.x_isi2, Fz.x_isi3, Fz.x_isi4, Fz.x_isi5, Fz.x_isi6, Fz.x_isi7, Fz.x_isi8, Fz.x_isi9, Fz.x_isi10, Fz.x_isi11, Fz.x_isi12, Fz.x_isi13, Fz.x_isi14, Fz.x_isi15, Fz.x_isi16, Fz.x_isi17, Fz.x_isi18, Fz.x_isi19, Fz.x_isi20, Fz.x_ttpf, Fz.x_ixfr0, Fz.x_ixfr1, Fz.x_lenfr, Fz.x_itfr, Fz.x_itT, Fz.x_itL, Fz.x_srcfr, Fz.x_eqfr, Fz.x_nefr, Fz.x_ufr, Fz.x_ll, Fz.x_calll, Fz.x_ienA, Fz.x_enA, Fz.x_enT, Fz.x_rvT, Fz.x_rvS, Fz.x_rvL, Fz.x_rvF, Fz.x_lcm, Fz.if_false', Fz.if_true', Fz.optQ_some, Fz.atI_0, Fz.atI_1, Fz.atI_n, Fz.ixN_0, Fz.ixN_1, Fz.ixN_n, List.set_cons_succ, List.set_cons_zero, List.getElem?_cons_succ, List.getElem?_cons_zero, List.length_cons, List.length_nil, List.map_cons, List.map_nil, List.replicate_succ, List.replicate_zero, List.cons_append, List.nil_append, List.append_assoc, List.append_nil, Fz.permL, List.filterMap_cons, List.filterMap_nil, List.length_set, List.set_set, Nat.reduceAdd, Nat.reduceLT, Nat.reduceLeDiff, Nat.reduceSub, Nat.reduceEqDiff, Int.reduceAdd, Int.reduceToNat, Int.reducePow, decide_eq_true_eq, if_true, if_false, ite_true, ite_false, true_and, and_true, not_false_eq_true, not_true_eq_false, false_and, and_false, Bool.false_eq_true, Bool.true_eq_false, Bool.not_true, Bool.not_false, Fz.cutD_map, Fz.ints_int, List.flatten_cons, List.flatten_nil, Nat.add_assoc, Fz.LINE, Fz.b62, and_assoc, List.all_cons, List.all_nil, Nat.le_refl, Option.map_some, List.cons_beq_cons, Nat.reduceBEq, Nat.reduceBNe, Bool.and_true, Bool.true_and, Bool.false_and, Bool.and_false, beq_self_eq_true, Bool.or_true, Bool.true_or, Bool.or_false, Bool.false_or, Fz.bls_map, List.length_append, List.length_map, List.length_take, List.length_drop, List.length_reverse, List.length_replicate, List.length_range, List.isEmpty_cons, List.isEmpty_nil, Int.reduceNeg, Int.reduceMul, Int.reduceSub, Int.reduceLT, Int.reduceLE, Int.reduceBEq, Int.reduceBNe, Int.reduceNe, Int.reduceEq, decide_true, decide_false, id, List.getElem?_nil, beq_iff_eq, bne_iff_ne, ne_eq, Bool.not_eq_true', Bool.and_eq_true, Bool.or_eq_true, beq_eq_false_iff_ne, Bool.not_eq_false', decide_eq_false_iff_not, Int.not_lt, Int.not_le, k_LEAST_TEETH, k_MOST_TEETH, is_between_i, a1, a2])
theorem wrong_wheel_ok {l : List Nat} (h : ∀ c ∈ l, 6 ≤ c ∧ c ≤ 99) : G_wrong_wheel [.vl (.tup (nI l))] = .ok .non [.no] := gsat_eq (by
  have e : G_first_wrong [.vl (.tup (nI l)), .vl (.lam "wrong_wheel")] = .ok .non [.no, .no] := gsat_eq (by
    unfold G_first_wrong g_first_wrong
    simp -implicitDefEqProofs only [Fz.x_ok, Fz.x_stuck, Fz.x_exc, Fz.x_ite, Fz.x_bind, Fz.x_fl, Fz.x_fl0, Fz.x_fite, Fz.x_nx, Fz.x_rt, Fz.x_fst, Fz.x_opt, Fz.x_nil, Fz.x_seq, Fz.x_expr, Fz.x_ret, Fz.x_retN, Fz.x_brk, Fz.x_cnt, Fz.x_qstuck, Fz.x_if, Fz.x_asg, Fz.x_tg, Fz.x_tgn, Fz.x_asgO, Fz.x_co, Fz.x_par2, Fz.x_par3, Fz.x_panil, Fz.x_paE, Fz.x_paF, Fz.x_parO2, Fz.x_parO3, Fz.x_p2, Fz.x_p3, Fz.x_set, Fz.x_setQ, Fz.x_wp, Fz.x_pre, Fz.x_wipe0, Fz.x_wipeS, Fz.x_tnm, Fz.x_tsnil, Fz.x_tscons, Fz.x_ttp, Fz.x_ttl, Fz.x_ttlT, Fz.x_tsb, Fz.x_var, Fz.x_slV, Fz.x_slO, Fz.x_pk, Fz.x_pkV, Fz.x_pkO, Fz.x_c, Fz.x_1, Fz.x_2, Fz.x_2k, Fz.x_n, Fz.x_n1, Fz.x_eif, Fz.x_and, Fz.x_or, Fz.x_not, Fz.x_ch, Fz.x_sl, Fz.x_slL, Fz.x_slk, Fz.x_onone, Fz.x_osome, Fz.x_inO, Fz.x_m, Fz.x_app, Fz.x_ow, Fz.x_anil, Fz.x_acons, Fz.x_astar, Fz.x_aapp, Fz.x_tru, Fz.x_tbl, Fz.x_tnot, Fz.x_tand, Fz.x_tor, Fz.x_tyes, Fz.x_blO, Fz.x_ubl, Fz.x_uint, Fz.x_unon, Fz.x_utup, Fz.x_ulsv, Fz.x_call, Fz.x_oc, Fz.x_io, Fz.x_put, Fz.x_perm0, Fz.x_def, Fz.x_defF, Fz.x_outs0, Fz.x_outsT, Fz.x_outsF, Fz.x_for, Fz.x_iof, Fz.x_ien, Fz.x_iN, Fz.x_srcT, Fz.x_srcF, Fz.x_srcL, Fz.x_srcS, Fz.x_zip, Fz.x_zipT, Fz.x_en, Fz.x_lc, Fz.x_rest0, Fz.x_restS, Fz.x_rsV, Fz.x_rsN, Fz.x_rsO, Fz.x_some, Fz.x_map, Fz.x_obind, Fz.x_mul, Fz.x_sub, Fz.x_div, Fz.x_mod, Fz.x_pow, Fz.x_shl, Fz.x_shr, Fz.x_andI, Fz.x_cmp, Fz.x_neg, Fz.x_addI, Fz.x_addS, Fz.x_addT, Fz.x_addL, Fz.x_addLL, Fz.x_mulAI, Fz.x_mulAC, Fz.x_mulAL, Fz.x_mulLL, Fz.x_tup, Fz.x_lst, Fz.x_abs, Fz.x_max2, Fz.x_min2, Fz.x_gcd, Fz.x_intI, Fz.x_intB, Fz.x_dm, Fz.x_lenS, Fz.x_lenT, Fz.x_lenF, Fz.x_lenL, Fz.x_ixT, Fz.x_ixF, Fz.x_ixL, Fz.x_ixS, Fz.x_slT, Fz.x_slF, Fz.x_slLs, Fz.x_slS, Fz.x_slLF, Fz.x_slLL, Fz.x_revS, Fz.x_revL, Fz.x_tupleT, Fz.x_tupleF, Fz.x_tupleL, Fz.x_listT, Fz.x_listF, Fz.x_listL, Fz.x_sumL, Fz.x_sumT, Fz.x_sumF, Fz.x_all, Fz.x_any, Fz.x_r1, Fz.x_r2, Fz.x_r3, Fz.x_lr, Fz.x_join, Fz.x_tyS, Fz.x_tyL, Fz.x_eqQ, Fz.x_eqS, Fz.x_neS, Fz.x_eqI, Fz.x_neI, Fz.x_eqB, Fz.x_neB, Fz.x_eqT, Fz.x_neT, Fz.x_eqL, Fz.x_neL, Fz.x_pyI, Fz.x_pyS, Fz.x_pyB, Fz.x_pyN, Fz.x_pyT, Fz.x_pyF, Fz.x_pyL, Fz.x_mp0, Fz.x_mpC, Fz.x_mpO, Fz.x_omap, Fz.x_repr, Fz.x_rp, Fz.x_pyfr, Fz.x_mpfr, Fz.x_mpint, Fz.x_isN, Fz.x_isI, Fz.x_isS, Fz.x_isT, Fz.x_isL, Fz.x_isB, Fz.x_isBB, Fz.x_isfr, Fz.x_inC, Fz.x_ninC, Fz.x_isi1, Fz.x_isi2, Fz.x_isi3, Fz.x_isi4, Fz.x_isi5, Fz.x_isi6, Fz.x_isi7, Fz.x_isi8, Fz.x_isi9, Fz.x_isi10, Fz.x_isi11, Fz.x_isi12, Fz.x_isi13, Fz.x_isi14, Fz.x_isi15, Fz.x_isi16, Fz.x_isi17, Fz.x_isi18, Fz.x_isi19, Fz.x_isi20, Fz.x_ttpf, Fz.x_ixfr0, Fz.x_ixfr1, Fz.x_lenfr, Fz.x_itfr, Fz.x_itT, Fz.x_itL, Fz.x_srcfr, Fz.x_eqfr, Fz.x_nefr, Fz.x_ufr, Fz.x_ll, Fz.x_calll, Fz.x_ienA, Fz.x_enA, Fz.x_enT, Fz.x_rvT, Fz.x_rvS, Fz.x_rvL, Fz.x_rvF, Fz.x_lcm, Fz.if_false', Fz.if_true', Fz.optQ_some, Fz.atI_0, Fz.atI_1, Fz.atI_n, Fz.ixN_0, Fz.ixN_1, Fz.ixN_n, List.set_cons_succ, List.set_cons_zero, List.getElem?_cons_succ, List.getElem?_cons_zero, List.length_cons, List.length_nil, List.map_cons, List.map_nil, List.replicate_succ, List.replicate_zero, List.cons_append, List.nil_append, List.append_assoc, List.append_nil, Fz.permL, List.filterMap_cons, List.filterMap_nil, List.length_set, List.set_set, Nat.reduceAdd, Nat.reduceLT, Nat.reduceLeDiff, Nat.reduceSub, Nat.reduceEqDiff, Int.reduceAdd, Int.reduceToNat, Int.reducePow, decide_eq_true_eq, if_true, if_false, ite_true, ite_false, true_and, and_true, not_false_eq_true, not_true_eq_false, false_and, and_false, Bool.false_eq_true, Bool.true_eq_false, Bool.not_true, Bool.not_false, Fz.cutD_map, Fz.ints_int, List.flatten_cons, List.flatten_nil, Nat.add_assoc, Fz.LINE, Fz.b62, and_assoc, List.all_cons, List.all_nil, Nat.le_refl, Option.map_some, List.cons_beq_cons, Nat.reduceBEq, Nat.reduceBNe, Bool.and_true, Bool.true_and, Bool.false_and, Bool.and_false, beq_self_eq_true, Bool.or_true, Bool.true_or, Bool.or_false, Bool.false_or, Fz.bls_map, List.length_append, List.length_map, List.length_take, List.length_drop, List.length_reverse, List.length_replicate, List.length_range, List.isEmpty_cons, List.isEmpty_nil, Int.reduceNeg, Int.reduceMul, Int.reduceSub, Int.reduceLT, Int.reduceLE, Int.reduceBEq, Int.reduceBNe, Int.reduceNe, Int.reduceEq, decide_true, decide_false, id, List.getElem?_nil, beq_iff_eq, bne_iff_ne, ne_eq, Bool.not_eq_true', Bool.and_eq_true, Bool.or_eq_true, beq_eq_false_iff_ne, Bool.not_eq_false', decide_eq_false_iff_not, Int.not_lt, Int.not_le]
    refine gforS (fun _ : Unit => [.vl (.tup (nI l)), .vl (.lam "wrong_wheel"), .no, .no]) (fun _ _ => True) () rfl trivial ?_ ?_
    · intro i w _ hw _
      rw [enumW_get] at hw
      obtain ⟨d, hd, rfl⟩ := Option.map_eq_some_iff.mp hw
      unfold nI at hd
      rw [List.getElem?_map] at hd
      obtain ⟨c, hc, rfl⟩ := Option.map_eq_some_iff.mp hd
      have c9 := h c (List.mem_of_getElem? hc)
      simp -implicitDefEqProofs only [Fz.x_ok, Fz.x_stuck, Fz.x_exc, Fz.x_ite, Fz.x_bind, Fz.x_fl, Fz.x_fl0, Fz.x_fite, Fz.x_nx, Fz.x_rt, Fz.x_fst, Fz.x_opt, Fz.x_nil, Fz.x_seq, Fz.x_expr, Fz.x_ret, Fz.x_retN, Fz.x_brk, Fz.x_cnt, Fz.x_qstuck, Fz.x_if, Fz.x_asg, Fz.x_tg, Fz.x_tgn, Fz.x_asgO, Fz.x_co, Fz.x_par2, Fz.x_par3, Fz.x_panil, Fz.x_paE, Fz.x_paF, Fz.x_parO2, Fz.x_parO3, Fz.x_p2, Fz.x_p3, Fz.x_set, Fz.x_setQ, Fz.x_wp, Fz.x_pre, Fz.x_wipe0, Fz.x_wipeS, Fz.x_tnm, Fz.x_tsnil, Fz.x_tscons, Fz.x_ttp, Fz.x_ttl, Fz.x_ttlT, Fz.x_tsb, Fz.x_var, Fz.x_slV, Fz.x_slO, Fz.x_pk, Fz.x_pkV, Fz.x_pkO, Fz.x_c, Fz.x_1, Fz.x_2, Fz.x_2k, Fz.x_n, Fz.x_n1, Fz.x_eif, Fz.x_and, Fz.x_or, Fz.x_not, Fz.x_ch, Fz.x_sl, Fz.x_slL, Fz.x_slk, Fz.x_onone, Fz.x_osome, Fz.x_inO, Fz.x_m, Fz.x_app, Fz.x_ow, Fz.x_anil, Fz.x_acons, Fz.x_astar, Fz.x_aapp, Fz.x_tru, Fz.x_tbl, Fz.x_tnot, Fz.x_tand, Fz.x_tor, Fz.x_tyes, Fz.x_blO, Fz.x_ubl, Fz.x_uint, Fz.x_unon, Fz.x_utup, Fz.x_ulsv, Fz.x_call, Fz.x_oc, Fz.x_io, Fz.x_put, Fz.x_perm0, Fz.x_def, Fz.x_defF, Fz.x_outs0, Fz.x_outsT, Fz.x_outsF, Fz.x_for, Fz.x_iof, Fz.x_ien, Fz.x_iN, Fz.x_srcT, Fz.x_srcF, Fz.x_srcL, Fz.x_srcS, Fz.x_zip, Fz.x_zipT, Fz.x_en, Fz.x_lc, Fz.x_rest0, Fz.x_restS, Fz.x_rsV, Fz.x_rsN, Fz.x_rsO, Fz.x_some, Fz.x_map, Fz.x_obind, Fz.x_mul, Fz.x_sub, Fz.x_div, Fz.x_mod, Fz.x_pow, Fz.x_shl, Fz.x_shr, Fz.x_andI, Fz.x_cmp, Fz.x_neg, Fz.x_addI, Fz.x_addS, Fz.x_addT, Fz.x_addL, Fz.x_addLL, Fz.x_mulAI, Fz.x_mulAC, Fz.x_mulAL, Fz.x_mulLL, Fz.x_tup, Fz.x_lst, Fz.x_abs, Fz.x_max2, Fz.x_min2, Fz.x_gcd, Fz.x_intI, Fz.x_intB, Fz.x_dm, Fz.x_lenS, Fz.x_lenT, Fz.x_lenF, Fz.x_lenL, Fz.x_ixT, Fz.x_ixF, Fz.x_ixL, Fz.x_ixS, Fz.x_slT, Fz.x_slF, Fz.x_slLs, Fz.x_slS, Fz.x_slLF, Fz.x_slLL, Fz.x_revS, Fz.x_revL, Fz.x_tupleT, Fz.x_tupleF, Fz.x_tupleL, Fz.x_listT, Fz.x_listF, Fz.x_listL, Fz.x_sumL, Fz.x_sumT, Fz.x_sumF, Fz.x_all, Fz.x_any, Fz.x_r1, Fz.x_r2, Fz.x_r3, Fz.x_lr, Fz.x_join, Fz.x_tyS, Fz.x_tyL, Fz.x_eqQ, Fz.x_eqS, Fz.x_neS, Fz.x_eqI, Fz.x_neI, Fz.x_eqB, Fz.x_neB, Fz.x_eqT, Fz.x_neT, Fz.x_eqL, Fz.x_neL, Fz.x_pyI, Fz.x_pyS, Fz.x_pyB, Fz.x_pyN, Fz.x_pyT, Fz.x_pyF, Fz.x_pyL, Fz.x_mp0, Fz.x_mpC, Fz.x_mpO, Fz.x_omap, Fz.x_repr, Fz.x_rp, Fz.x_pyfr, Fz.x_mpfr, Fz.x_mpint, Fz.x_isN, Fz.x_isI, Fz.x_isS, Fz.x_isT, Fz.x_isL, Fz.x_isB, Fz.x_isBB, Fz.x_isfr, Fz.x_inC, Fz.x_ninC, Fz.x_isi1, Fz.x_isi2, Fz.x_isi3, Fz.x_isi4, Fz.x_isi5, Fz.x_isi6, Fz.x_isi7, Fz.x_isi8, Fz.x_isi9, Fz.x_isi10, Fz.x_isi11, Fz.x_isi12, Fz.x_isi13, Fz.x_isi14, Fz.x_isi15, Fz.x_isi16, Fz.x_isi17, Fz.x_isi18, Fz.x_isi19, Fz.x_isi20, Fz.x_ttpf, Fz.x_ixfr0, Fz.x_ixfr1, Fz.x_lenfr, Fz.x_itfr, Fz.x_itT, Fz.x_itL, Fz.x_srcfr, Fz.x_eqfr, Fz.x_nefr, Fz.x_ufr, Fz.x_ll, Fz.x_calll, Fz.x_ienA, Fz.x_enA, Fz.x_enT, Fz.x_rvT, Fz.x_rvS, Fz.x_rvL, Fz.x_rvF, Fz.x_lcm, Fz.if_false', Fz.if_true', Fz.optQ_some, Fz.atI_0, Fz.atI_1, Fz.atI_n, Fz.ixN_0, Fz.ixN_1, Fz.ixN_n, List.set_cons_succ, List.set_cons_zero, List.getElem?_cons_succ, List.getElem?_cons_zero, List.length_cons, List.length_nil, List.map_cons, List.map_nil, List.replicate_succ, List.replicate_zero, List.cons_append, List.nil_append, List.append_assoc, List.append_nil, Fz.permL, List.filterMap_cons, List.filterMap_nil, List.length_set, List.set_set, Nat.reduceAdd, Nat.reduceLT, Nat.reduceLeDiff, Nat.reduceSub, Nat.reduceEqDiff, Int.reduceAdd, Int.reduceToNat, Int.reducePow, decide_eq_true_eq, if_true, if_false, ite_true, ite_false, true_and, and_true, not_false_eq_true, not_true_eq_false, false_and, and_false, Bool.false_eq_true, Bool.true_eq_false, Bool.not_true, Bool.not_false, Fz.cutD_map, Fz.ints_int, List.flatten_cons, List.flatten_nil, Nat.add_assoc, Fz.LINE, Fz.b62, and_assoc, List.all_cons, List.all_nil, Nat.le_refl, Option.map_some, List.cons_beq_cons, Nat.reduceBEq, Nat.reduceBNe, Bool.and_true, Bool.true_and, Bool.false_and, Bool.and_false, beq_self_eq_true, Bool.or_true, Bool.true_or, Bool.or_false, Bool.false_or, Fz.bls_map, List.length_append, List.length_map, List.length_take, List.length_drop, List.length_reverse, List.length_replicate, List.length_range, List.isEmpty_cons, List.isEmpty_nil, Int.reduceNeg, Int.reduceMul, Int.reduceSub, Int.reduceLT, Int.reduceLE, Int.reduceBEq, Int.reduceBNe, Int.reduceNe, Int.reduceEq, decide_true, decide_false, id, List.getElem?_nil, beq_iff_eq, bne_iff_ne, ne_eq, Bool.not_eq_true', Bool.and_eq_true, Bool.or_eq_true, beq_eq_false_iff_ne, Bool.not_eq_false', decide_eq_false_iff_not, Int.not_lt, Int.not_le, gl_wrong_wheel, L_ww_eq c9]
      exact ⟨(), trivial⟩
    · intro _ _
      simp -implicitDefEqProofs only [Fz.x_ok, Fz.x_stuck, Fz.x_exc, Fz.x_ite, Fz.x_bind, Fz.x_fl, Fz.x_fl0, Fz.x_fite, Fz.x_nx, Fz.x_rt, Fz.x_fst, Fz.x_opt, Fz.x_nil, Fz.x_seq, Fz.x_expr, Fz.x_ret, Fz.x_retN, Fz.x_brk, Fz.x_cnt, Fz.x_qstuck, Fz.x_if, Fz.x_asg, Fz.x_tg, Fz.x_tgn, Fz.x_asgO, Fz.x_co, Fz.x_par2, Fz.x_par3, Fz.x_panil, Fz.x_paE, Fz.x_paF, Fz.x_parO2, Fz.x_parO3, Fz.x_p2, Fz.x_p3, Fz.x_set, Fz.x_setQ, Fz.x_wp, Fz.x_pre, Fz.x_wipe0, Fz.x_wipeS, Fz.x_tnm, Fz.x_tsnil, Fz.x_tscons, Fz.x_ttp, Fz.x_ttl, Fz.x_ttlT, Fz.x_tsb, Fz.x_var, Fz.x_slV, Fz.x_slO, Fz.x_pk, Fz.x_pkV, Fz.x_pkO, Fz.x_c, Fz.x_1, Fz.x_2, Fz.x_2k, Fz.x_n, Fz.x_n1, Fz.x_eif, Fz.x_and, Fz.x_or, Fz.x_not, Fz.x_ch, Fz.x_sl, Fz.x_slL, Fz.x_slk, Fz.x_onone, Fz.x_osome, Fz.x_inO, Fz.x_m, Fz.x_app, Fz.x_ow, Fz.x_anil, Fz.x_acons, Fz.x_astar, Fz.x_aapp, Fz.x_tru, Fz.x_tbl, Fz.x_tnot, Fz.x_tand, Fz.x_tor, Fz.x_tyes, Fz.x_blO, Fz.x_ubl, Fz.x_uint, Fz.x_unon, Fz.x_utup, Fz.x_ulsv, Fz.x_call, Fz.x_oc, Fz.x_io, Fz.x_put, Fz.x_perm0, Fz.x_def, Fz.x_defF, Fz.x_outs0, Fz.x_outsT, Fz.x_outsF, Fz.x_for, Fz.x_iof, Fz.x_ien, Fz.x_iN, Fz.x_srcT, Fz.x_srcF, Fz.x_srcL, Fz.x_srcS, Fz.x_zip, Fz.x_zipT, Fz.x_en, Fz.x_lc, Fz.x_rest0, Fz.x_restS, Fz.x_rsV, Fz.x_rsN, Fz.x_rsO, Fz.x_some, Fz.x_map, Fz.x_obind, Fz.x_mul, Fz.x_sub, Fz.x_div, Fz.x_mod, Fz.x_pow, Fz.x_shl, Fz.x_shr, Fz.x_andI, Fz.x_cmp, Fz.x_neg, Fz.x_addI, Fz.x_addS, Fz.x_addT, Fz.x_addL, Fz.x_addLL, Fz.x_mulAI, Fz.x_mulAC, Fz.x_mulAL, Fz.x_mulLL, Fz.x_tup, Fz.x_lst, Fz.x_abs, Fz.x_max2, Fz.x_min2, Fz.x_gcd, Fz.x_intI, Fz.x_intB, Fz.x_dm, Fz.x_lenS, Fz.x_lenT, Fz.x_lenF, Fz.x_lenL, Fz.x_ixT, Fz.x_ixF, Fz.x_ixL, Fz.x_ixS, Fz.x_slT, Fz.x_slF, Fz.x_slLs, Fz.x_slS, Fz.x_slLF, Fz.x_slLL, Fz.x_revS, Fz.x_revL, Fz.x_tupleT, Fz.x_tupleF, Fz.x_tupleL, Fz.x_listT, Fz.x_listF, Fz.x_listL, Fz.x_sumL, Fz.x_sumT, Fz.x_sumF, Fz.x_all, Fz.x_any, Fz.x_r1, Fz.x_r2, Fz.x_r3, Fz.x_lr, Fz.x_join, Fz.x_tyS, Fz.x_tyL, Fz.x_eqQ, Fz.x_eqS, Fz.x_neS, Fz.x_eqI, Fz.x_neI, Fz.x_eqB, Fz.x_neB, Fz.x_eqT, Fz.x_neT, Fz.x_eqL, Fz.x_neL, Fz.x_pyI, Fz.x_pyS, Fz.x_pyB, Fz.x_pyN, Fz.x_pyT, Fz.x_pyF, Fz.x_pyL, Fz.x_mp0, Fz.x_mpC, Fz.x_mpO, Fz.x_omap, Fz.x_repr, Fz.x_rp, Fz.x_pyfr, Fz.x_mpfr, Fz.x_mpint, Fz.x_isN, Fz.x_isI, Fz.x_isS, Fz.x_isT, Fz.x_isL, Fz.x_isB, Fz.x_isBB, Fz.x_isfr, Fz.x_inC, Fz.x_ninC, Fz.x_isi1, Fz.x_isi2, Fz.x_isi3, Fz.x_isi4, Fz.x_isi5, Fz.x_isi6, Fz.x_isi7, Fz.x_isi8, Fz.x_isi9, Fz.x_isi10, Fz.x_isi11, Fz.x_isi12, Fz.x_isi13, Fz.x_isi14, Fz.x_isi15, Fz.x_isi16, Fz.x_isi17, Fz.x_isi18, Fz.x_isi19, Fz.x_isi20, Fz.x_ttpf, Fz.x_ixfr0, Fz.x_ixfr1, Fz.x_lenfr, Fz.x_itfr, Fz.x_itT, Fz.x_itL, Fz.x_srcfr, Fz.x_eqfr, Fz.x_nefr, Fz.x_ufr, Fz.x_ll, Fz.x_calll, Fz.x_ienA, Fz.x_enA, Fz.x_enT, Fz.x_rvT, Fz.x_rvS, Fz.x_rvL, Fz.x_rvF, Fz.x_lcm, Fz.if_false', Fz.if_true', Fz.optQ_some, Fz.atI_0, Fz.atI_1, Fz.atI_n, Fz.ixN_0, Fz.ixN_1, Fz.ixN_n, List.set_cons_succ, List.set_cons_zero, List.getElem?_cons_succ, List.getElem?_cons_zero, List.length_cons, List.length_nil, List.map_cons, List.map_nil, List.replicate_succ, List.replicate_zero, List.cons_append, List.nil_append, List.append_assoc, List.append_nil, Fz.permL, List.filterMap_cons, List.filterMap_nil, List.length_set, List.set_set, Nat.reduceAdd, Nat.reduceLT, Nat.reduceLeDiff, Nat.reduceSub, Nat.reduceEqDiff, Int.reduceAdd, Int.reduceToNat, Int.reducePow, decide_eq_true_eq, if_true, if_false, ite_true, ite_false, true_and, and_true, not_false_eq_true, not_true_eq_false, false_and, and_false, Bool.false_eq_true, Bool.true_eq_false, Bool.not_true, Bool.not_false, Fz.cutD_map, Fz.ints_int, List.flatten_cons, List.flatten_nil, Nat.add_assoc, Fz.LINE, Fz.b62, and_assoc, List.all_cons, List.all_nil, Nat.le_refl, Option.map_some, List.cons_beq_cons, Nat.reduceBEq, Nat.reduceBNe, Bool.and_true, Bool.true_and, Bool.false_and, Bool.and_false, beq_self_eq_true, Bool.or_true, Bool.true_or, Bool.or_false, Bool.false_or, Fz.bls_map, List.length_append, List.length_map, List.length_take, List.length_drop, List.length_reverse, List.length_replicate, List.length_range, List.isEmpty_cons, List.isEmpty_nil, Int.reduceNeg, Int.reduceMul, Int.reduceSub, Int.reduceLT, Int.reduceLE, Int.reduceBEq, Int.reduceBNe, Int.reduceNe, Int.reduceEq, decide_true, decide_false, id, List.getElem?_nil, beq_iff_eq, bne_iff_ne, ne_eq, Bool.not_eq_true', Bool.and_eq_true, Bool.or_eq_true, beq_eq_false_iff_ne, Bool.not_eq_false', decide_eq_false_iff_not, Int.not_lt, Int.not_le])
  unfold G_wrong_wheel g_wrong_wheel
  simp -implicitDefEqProofs only [Fz.x_ok, Fz.x_stuck, Fz.x_exc, Fz.x_ite, Fz.x_bind, Fz.x_fl, Fz.x_fl0, Fz.x_fite, Fz.x_nx, Fz.x_rt, Fz.x_fst, Fz.x_opt, Fz.x_nil, Fz.x_seq, Fz.x_expr, Fz.x_ret, Fz.x_retN, Fz.x_brk, Fz.x_cnt, Fz.x_qstuck, Fz.x_if, Fz.x_asg, Fz.x_tg, Fz.x_tgn, Fz.x_asgO, Fz.x_co, Fz.x_par2, Fz.x_par3, Fz.x_panil, Fz.x_paE, Fz.x_paF, Fz.x_parO2, Fz.x_parO3, Fz.x_p2, Fz.x_p3, Fz.x_set, Fz.x_setQ, Fz.x_wp, Fz.x_pre, Fz.x_wipe0, Fz.x_wipeS, Fz.x_tnm, Fz.x_tsnil, Fz.x_tscons, Fz.x_ttp, Fz.x_ttl, Fz.x_ttlT, Fz.x_tsb, Fz.x_var, Fz.x_slV, Fz.x_slO, Fz.x_pk, Fz.x_pkV, Fz.x_pkO, Fz.x_c, Fz.x_1, Fz.x_2, Fz.x_2k, Fz.x_n, Fz.x_n1, Fz.x_eif, Fz.x_and, Fz.x_or, Fz.x_not, Fz.x_ch, Fz.x_sl, Fz.x_slL, Fz.x_slk, Fz.x_onone, Fz.x_osome, Fz.x_inO, Fz.x_m, Fz.x_app, Fz.x_ow, Fz.x_anil, Fz.x_acons, Fz.x_astar, Fz.x_aapp, Fz.x_tru, Fz.x_tbl, Fz.x_tnot, Fz.x_tand, Fz.x_tor, Fz.x_tyes, Fz.x_blO, Fz.x_ubl, Fz.x_uint, Fz.x_unon, Fz.x_utup, Fz.x_ulsv, Fz.x_call, Fz.x_oc, Fz.x_io, Fz.x_put, Fz.x_perm0, Fz.x_def, Fz.x_defF, Fz.x_outs0, Fz.x_outsT, Fz.x_outsF, Fz.x_for, Fz.x_iof, Fz.x_ien, Fz.x_iN, Fz.x_srcT, Fz.x_srcF, Fz.x_srcL, Fz.x_srcS, Fz.x_zip, Fz.x_zipT, Fz.x_en, Fz.x_lc, Fz.x_rest0, Fz.x_restS, Fz.x_rsV, Fz.x_rsN, Fz.x_rsO, Fz.x_some, Fz.x_map, Fz.x_obind, Fz.x_mul, Fz.x_sub, Fz.x_div, Fz.x_mod, Fz.x_pow, Fz.x_shl, Fz.x_shr, Fz.x_andI, Fz.x_cmp, Fz.x_neg, Fz.x_addI, Fz.x_addS, Fz.x_addT, Fz.x_addL, Fz.x_addLL, Fz.x_mulAI, Fz.x_mulAC, Fz.x_mulAL, Fz.x_mulLL, Fz.x_tup, Fz.x_lst, Fz.x_abs, Fz.x_max2, Fz.x_min2, Fz.x_gcd, Fz.x_intI, Fz.x_intB, Fz.x_dm, Fz.x_lenS, Fz.x_lenT, Fz.x_lenF, Fz.x_lenL, Fz.x_ixT, Fz.x_ixF, Fz.x_ixL, Fz.x_ixS, Fz.x_slT, Fz.x_slF, Fz.x_slLs, Fz.x_slS, Fz.x_slLF, Fz.x_slLL, Fz.x_revS, Fz.x_revL, Fz.x_tupleT, Fz.x_tupleF, Fz.x_tupleL, Fz.x_listT, Fz.x_listF, Fz.x_listL, Fz.x_sumL, Fz.x_sumT, Fz.x_sumF, Fz.x_all, Fz.x_any, Fz.x_r1, Fz.x_r2, Fz.x_r3, Fz.x_lr, Fz.x_join, Fz.x_tyS, Fz.x_tyL, Fz.x_eqQ, Fz.x_eqS, Fz.x_neS, Fz.x_eqI, Fz.x_neI, Fz.x_eqB, Fz.x_neB, Fz.x_eqT, Fz.x_neT, Fz.x_eqL, Fz.x_neL, Fz.x_pyI, Fz.x_pyS, Fz.x_pyB, Fz.x_pyN, Fz.x_pyT, Fz.x_pyF, Fz.x_pyL, Fz.x_mp0, Fz.x_mpC, Fz.x_mpO, Fz.x_omap, Fz.x_repr, Fz.x_rp, Fz.x_pyfr, Fz.x_mpfr, Fz.x_mpint, Fz.x_isN, Fz.x_isI, Fz.x_isS, Fz.x_isT, Fz.x_isL, Fz.x_isB, Fz.x_isBB, Fz.x_isfr, Fz.x_inC, Fz.x_ninC, Fz.x_isi1, Fz.x_isi2, Fz.x_isi3, Fz.x_isi4, Fz.x_isi5, Fz.x_isi6, Fz.x_isi7, Fz.x_isi8, Fz.x_isi9, Fz.x_isi10, Fz.x_isi11, Fz.x_isi12, Fz.x_isi13, Fz.x_isi14, Fz.x_isi15, Fz.x_isi16, Fz.x_isi17, Fz.x_isi18, Fz.x_isi19, Fz.x_isi20, Fz.x_ttpf, Fz.x_ixfr0, Fz.x_ixfr1, Fz.x_lenfr, Fz.x_itfr, Fz.x_itT, Fz.x_itL, Fz.x_srcfr, Fz.x_eqfr, Fz.x_nefr, Fz.x_ufr, Fz.x_ll, Fz.x_calll, Fz.x_ienA, Fz.x_enA, Fz.x_enT, Fz.x_rvT, Fz.x_rvS, Fz.x_rvL, Fz.x_rvF, Fz.x_lcm, Fz.if_false', Fz.if_true', Fz.optQ_some, Fz.atI_0, Fz.atI_1, Fz.atI_n, Fz.ixN_0, Fz.ixN_1, Fz.ixN_n, List.set_cons_succ, List.set_cons_zero, List.getElem?_cons_succ, List.getElem?_cons_zero, List.length_cons, List.length_nil, List.map_cons, List.map_nil, List.replicate_succ, List.replicate_zero, List.cons_append, List.nil_append, List.append_assoc, List.append_nil, Fz.permL, List.filterMap_cons, List.filterMap_nil, List.length_set, List.set_set, Nat.reduceAdd, Nat.reduceLT, Nat.reduceLeDiff, Nat.reduceSub, Nat.reduceEqDiff, Int.reduceAdd, Int.reduceToNat, Int.reducePow, decide_eq_true_eq, if_true, if_false, ite_true, ite_false, true_and, and_true, not_false_eq_true, not_true_eq_false, false_and, and_false, Bool.false_eq_true, Bool.true_eq_false, Bool.not_true, Bool.not_false, Fz.cutD_map, Fz.ints_int, List.flatten_cons, List.flatten_nil, Nat.add_assoc, Fz.LINE, Fz.b62, and_assoc, List.all_cons, List.all_nil, Nat.le_refl, Option.map_some, List.cons_beq_cons, Nat.reduceBEq, Nat.reduceBNe, Bool.and_true, Bool.true_and, Bool.false_and, Bool.and_false, beq_self_eq_true, Bool.or_true, Bool.true_or, Bool.or_false, Bool.false_or, Fz.bls_map, List.length_append, List.length_map, List.length_take, List.length_drop, List.length_reverse, List.length_replicate, List.length_range, List.isEmpty_cons, List.isEmpty_nil, Int.reduceNeg, Int.reduceMul, Int.reduceSub, Int.reduceLT, Int.reduceLE, Int.reduceBEq, Int.reduceBNe, Int.reduceNe, Int.reduceEq, decide_true, decide_false, id, List.getElem?_nil, beq_iff_eq, bne_iff_ne, ne_eq, Bool.not_eq_true', Bool.and_eq_true, Bool.or_eq_true, beq_eq_false_iff_ne, Bool.not_eq_false', decide_eq_false_iff_not, Int.not_lt, Int.not_le, e])
theorem check_train_ok {l : List Nat} (h : wheels l) : G_check_train [.vl (.tup (nI l))] = .ok .non [.no] := gsat_eq (by
  have l1 : (2 : Int) ≤ ((l.length : Nat) : Int) := by have := h.2.1; omega
  have l2 : ((l.length : Nat) : Int) ≤ 8 := by have := h.2.2; omega
  unfold G_check_train g_check_train
  simp -implicitDefEqProofs only [Fz.x_ok, Fz.x_stuck, Fz.x_exc, Fz.x_ite, Fz.x_bind, Fz.x_fl, Fz.x_fl0, Fz.x_fite, Fz.x_nx, Fz.x_rt, Fz.x_fst, Fz.x_opt, Fz.x_nil, Fz.x_seq, Fz.x_expr, Fz.x_ret, Fz.x_retN, Fz.x_brk, Fz.x_cnt, Fz.x_qstuck, Fz.x_if, Fz.x_asg, Fz.x_tg, Fz.x_tgn, Fz.x_asgO, Fz.x_co, Fz.x_par2, Fz.x_par3, Fz.x_panil, Fz.x_paE, Fz.x_paF, Fz.x_parO2, Fz.x_parO3, Fz.x_p2, Fz.x_p3, Fz.x_set, Fz.x_setQ, Fz.x_wp, Fz.x_pre, Fz.x_wipe0, Fz.x_wipeS, Fz.x_tnm, Fz.x_tsnil, Fz.x_tscons, Fz.x_ttp, Fz.x_ttl, Fz.x_ttlT, Fz.x_tsb, Fz.x_var, Fz.x_slV, Fz.x_slO, Fz.x_pk, Fz.x_pkV, Fz.x_pkO, Fz.x_c, Fz.x_1, Fz.x_2, Fz.x_2k, Fz.x_n, Fz.x_n1, Fz.x_eif, Fz.x_and, Fz.x_or, Fz.x_not, Fz.x_ch, Fz.x_sl, Fz.x_slL, Fz.x_slk, Fz.x_onone, Fz.x_osome, Fz.x_inO, Fz.x_m, Fz.x_app, Fz.x_ow, Fz.x_anil, Fz.x_acons, Fz.x_astar, Fz.x_aapp, Fz.x_tru, Fz.x_tbl, Fz.x_tnot, Fz.x_tand, Fz.x_tor, Fz.x_tyes, Fz.x_blO, Fz.x_ubl, Fz.x_uint, Fz.x_unon, Fz.x_utup, Fz.x_ulsv, Fz.x_call, Fz.x_oc, Fz.x_io, Fz.x_put, Fz.x_perm0, Fz.x_def, Fz.x_defF, Fz.x_outs0, Fz.x_outsT, Fz.x_outsF, Fz.x_for, Fz.x_iof, Fz.x_ien, Fz.x_iN, Fz.x_srcT, Fz.x_srcF, Fz.x_srcL, Fz.x_srcS, Fz.x_zip, Fz.x_zipT, Fz.x_en, Fz.x_lc, Fz.x_rest0, Fz.x_restS, Fz.x_rsV, Fz.x_rsN, Fz.x_rsO, Fz.x_some, Fz.x_map, Fz.x_obind, Fz.x_mul, Fz.x_sub, Fz.x_div, Fz.x_mod, Fz.x_pow, Fz.x_shl, Fz.x_shr, Fz.x_andI, Fz.x_cmp, Fz.x_neg, Fz.x_addI, Fz.x_addS, Fz.x_addT, Fz.x_addL, Fz.x_addLL, Fz.x_mulAI, Fz.x_mulAC, Fz.x_mulAL, Fz.x_mulLL, Fz.x_tup, Fz.x_lst, Fz.x_abs, Fz.x_max2, Fz.x_min2, Fz.x_gcd, Fz.x_intI, Fz.x_intB, Fz.x_dm, Fz.x_lenS, Fz.x_lenT, Fz.x_lenF, Fz.x_lenL, Fz.x_ixT, Fz.x_ixF, Fz.x_ixL, Fz.x_ixS, Fz.x_slT, Fz.x_slF, Fz.x_slLs, Fz.x_slS, Fz.x_slLF, Fz.x_slLL, Fz.x_revS, Fz.x_revL, Fz.x_tupleT, Fz.x_tupleF, Fz.x_tupleL, Fz.x_listT, Fz.x_listF, Fz.x_listL, Fz.x_sumL, Fz.x_sumT, Fz.x_sumF, Fz.x_all, Fz.x_any, Fz.x_r1, Fz.x_r2, Fz.x_r3, Fz.x_lr, Fz.x_join, Fz.x_tyS, Fz.x_tyL, Fz.x_eqQ, Fz.x_eqS, Fz.x_neS, Fz.x_eqI, Fz.x_neI, Fz.x_eqB, Fz.x_neB, Fz.x_eqT, Fz.x_neT, Fz.x_eqL, Fz.x_neL, Fz.x_pyI, Fz.x_pyS, Fz.x_pyB, Fz.x_pyN, Fz.x_pyT, Fz.x_pyF, Fz.x_pyL, Fz.x_mp0, Fz.x_mpC, Fz.x_mpO, Fz.x_omap, Fz.x_repr, Fz.x_rp, Fz.x_pyfr, Fz.x_mpfr, Fz.x_mpint, Fz.x_isN, Fz.x_isI, Fz.x_isS, Fz.x_isT, Fz.x_isL, Fz.x_isB, Fz.x_isBB, Fz.x_isfr, Fz.x_inC, Fz.x_ninC, Fz.x_isi1, Fz.x_isi2, Fz.x_isi3, Fz.x_isi4, Fz.x_isi5, Fz.x_isi6, Fz.x_isi7, Fz.x_isi8, Fz.x_isi9, Fz.x_isi10, Fz.x_isi11, Fz.x_isi12, Fz.x_isi13, Fz.x_isi14, Fz.x_isi15, Fz.x_isi16, Fz.x_isi17, Fz.x_isi18, Fz.x_isi19, Fz.x_isi20, Fz.x_ttpf, Fz.x_ixfr0, Fz.x_ixfr1, Fz.x_lenfr, Fz.x_itfr, Fz.x_itT, Fz.x_itL, Fz.x_srcfr, Fz.x_eqfr, Fz.x_nefr, Fz.x_ufr, Fz.x_ll, Fz.x_calll, Fz.x_ienA, Fz.x_enA, Fz.x_enT, Fz.x_rvT, Fz.x_rvS, Fz.x_rvL, Fz.x_rvF, Fz.x_lcm, Fz.if_false', Fz.if_true', Fz.optQ_some, Fz.atI_0, Fz.atI_1, Fz.atI_n, Fz.ixN_0, Fz.ixN_1, Fz.ixN_n, List.set_cons_succ, List.set_cons_zero, List.getElem?_cons_succ, List.getElem?_cons_zero, List.length_cons, List.length_nil, List.map_cons, List.map_nil, List.replicate_succ, List.replicate_zero, List.cons_append, List.nil_append, List.append_assoc, List.append_nil, Fz.permL, List.filterMap_cons, List.filterMap_nil, List.length_set, List.set_set, Nat.reduceAdd, Nat.reduceLT, Nat.reduceLeDiff, Nat.reduceSub, Nat.reduceEqDiff, Int.reduceAdd, Int.reduceToNat, Int.reducePow, decide_eq_true_eq, if_true, if_false, ite_true, ite_false, true_and, and_true, not_false_eq_true, not_true_eq_false, false_and, and_false, Bool.false_eq_true, Bool.true_eq_false, Bool.not_true, Bool.not_false, Fz.cutD_map, Fz.ints_int, List.flatten_cons, List.flatten_nil, Nat.add_assoc, Fz.LINE, Fz.b62, and_assoc, List.all_cons, List.all_nil, Nat.le_refl, Option.map_some, List.cons_beq_cons, Nat.reduceBEq, Nat.reduceBNe, Bool.and_true, Bool.true_and, Bool.false_and, Bool.and_false, beq_self_eq_true, Bool.or_true, Bool.true_or, Bool.or_false, Bool.false_or, Fz.bls_map, List.length_append, List.length_map, List.length_take, List.length_drop, List.length_reverse, List.length_replicate, List.length_range, List.isEmpty_cons, List.isEmpty_nil, Int.reduceNeg, Int.reduceMul, Int.reduceSub, Int.reduceLT, Int.reduceLE, Int.reduceBEq, Int.reduceBNe, Int.reduceNe, Int.reduceEq, decide_true, decide_false, id, List.getElem?_nil, beq_iff_eq, bne_iff_ne, ne_eq, Bool.not_eq_true', Bool.and_eq_true, Bool.or_eq_true, beq_eq_false_iff_ne, Bool.not_eq_false', decide_eq_false_iff_not, Int.not_lt, Int.not_le, is_row_eq, k_MOST_WHEELS, nI_len, l1, l2, wrong_wheel_ok h.1])
theorem train_eq {l : List Nat} (h : wheels l) (ne : l ≠ []) : G_train [.vl (.tup (nI l))] = .ok (.tup [fr (red (l.head ne : Nat) (l.getLast ne : Nat)), .bl (decide (l.length % 2 = 1))]) [.no] := gsat_eq (by
  have hh := h.1 _ (List.head_mem ne)
  have hl := h.1 _ (List.getLast_mem ne)
  have e : G_train_by [.vl (.tup (nI l))] = .ok (.tup [fr (red (l.head ne : Nat) (l.getLast ne : Nat)), .bl (decide (l.length % 2 = 1))]) [.no] := gsat_eq (by
    have lo := lowest_eq (a := ((l.head ne : Nat) : Int)) (b := ((l.getLast ne : Nat) : Int)) (m := 10) (by omega) (by show _ < _; omega)
    have p2 : ((((l.length : Nat) : Int) % 2) == 1) = decide (l.length % 2 = 1) := by
      rw [Bool.eq_iff_iff]; simp; omega
    unfold G_train_by g_train_by
    simp -implicitDefEqProofs only [Fz.x_ok, Fz.x_stuck, Fz.x_exc, Fz.x_ite, Fz.x_bind, Fz.x_fl, Fz.x_fl0, Fz.x_fite, Fz.x_nx, Fz.x_rt, Fz.x_fst, Fz.x_opt, Fz.x_nil, Fz.x_seq, Fz.x_expr, Fz.x_ret, Fz.x_retN, Fz.x_brk, Fz.x_cnt, Fz.x_qstuck, Fz.x_if, Fz.x_asg, Fz.x_tg, Fz.x_tgn, Fz.x_asgO, Fz.x_co, Fz.x_par2, Fz.x_par3, Fz.x_panil, Fz.x_paE, Fz.x_paF, Fz.x_parO2, Fz.x_parO3, Fz.x_p2, Fz.x_p3, Fz.x_set, Fz.x_setQ, Fz.x_wp, Fz.x_pre, Fz.x_wipe0, Fz.x_wipeS, Fz.x_tnm, Fz.x_tsnil, Fz.x_tscons, Fz.x_ttp, Fz.x_ttl, Fz.x_ttlT, Fz.x_tsb, Fz.x_var, Fz.x_slV, Fz.x_slO, Fz.x_pk, Fz.x_pkV, Fz.x_pkO, Fz.x_c, Fz.x_1, Fz.x_2, Fz.x_2k, Fz.x_n, Fz.x_n1, Fz.x_eif, Fz.x_and, Fz.x_or, Fz.x_not, Fz.x_ch, Fz.x_sl, Fz.x_slL, Fz.x_slk, Fz.x_onone, Fz.x_osome, Fz.x_inO, Fz.x_m, Fz.x_app, Fz.x_ow, Fz.x_anil, Fz.x_acons, Fz.x_astar, Fz.x_aapp, Fz.x_tru, Fz.x_tbl, Fz.x_tnot, Fz.x_tand, Fz.x_tor, Fz.x_tyes, Fz.x_blO, Fz.x_ubl, Fz.x_uint, Fz.x_unon, Fz.x_utup, Fz.x_ulsv, Fz.x_call, Fz.x_oc, Fz.x_io, Fz.x_put, Fz.x_perm0, Fz.x_def, Fz.x_defF, Fz.x_outs0, Fz.x_outsT, Fz.x_outsF, Fz.x_for, Fz.x_iof, Fz.x_ien, Fz.x_iN, Fz.x_srcT, Fz.x_srcF, Fz.x_srcL, Fz.x_srcS, Fz.x_zip, Fz.x_zipT, Fz.x_en, Fz.x_lc, Fz.x_rest0, Fz.x_restS, Fz.x_rsV, Fz.x_rsN, Fz.x_rsO, Fz.x_some, Fz.x_map, Fz.x_obind, Fz.x_mul, Fz.x_sub, Fz.x_div, Fz.x_mod, Fz.x_pow, Fz.x_shl, Fz.x_shr, Fz.x_andI, Fz.x_cmp, Fz.x_neg, Fz.x_addI, Fz.x_addS, Fz.x_addT, Fz.x_addL, Fz.x_addLL, Fz.x_mulAI, Fz.x_mulAC, Fz.x_mulAL, Fz.x_mulLL, Fz.x_tup, Fz.x_lst, Fz.x_abs, Fz.x_max2, Fz.x_min2, Fz.x_gcd, Fz.x_intI, Fz.x_intB, Fz.x_dm, Fz.x_lenS, Fz.x_lenT, Fz.x_lenF, Fz.x_lenL, Fz.x_ixT, Fz.x_ixF, Fz.x_ixL, Fz.x_ixS, Fz.x_slT, Fz.x_slF, Fz.x_slLs, Fz.x_slS, Fz.x_slLF, Fz.x_slLL, Fz.x_revS, Fz.x_revL, Fz.x_tupleT, Fz.x_tupleF, Fz.x_tupleL, Fz.x_listT, Fz.x_listF, Fz.x_listL, Fz.x_sumL, Fz.x_sumT, Fz.x_sumF, Fz.x_all, Fz.x_any, Fz.x_r1, Fz.x_r2, Fz.x_r3, Fz.x_lr, Fz.x_join, Fz.x_tyS, Fz.x_tyL, Fz.x_eqQ, Fz.x_eqS, Fz.x_neS, Fz.x_eqI, Fz.x_neI, Fz.x_eqB, Fz.x_neB, Fz.x_eqT, Fz.x_neT, Fz.x_eqL, Fz.x_neL, Fz.x_pyI, Fz.x_pyS, Fz.x_pyB, Fz.x_pyN, Fz.x_pyT, Fz.x_pyF, Fz.x_pyL, Fz.x_mp0, Fz.x_mpC, Fz.x_mpO, Fz.x_omap, Fz.x_repr, Fz.x_rp, Fz.x_pyfr, Fz.x_mpfr, Fz.x_mpint, Fz.x_isN, Fz.x_isI, Fz.x_isS, Fz.x_isT, Fz.x_isL, Fz.x_isB, Fz.x_isBB, Fz.x_isfr, Fz.x_inC, Fz.x_ninC, Fz.x_isi1, Fz.x_isi2, Fz.x_isi3, Fz.x_isi4, Fz.x_isi5, Fz.x_isi6, Fz.x_isi7, Fz.x_isi8, Fz.x_isi9, Fz.x_isi10, Fz.x_isi11, Fz.x_isi12, Fz.x_isi13, Fz.x_isi14, Fz.x_isi15, Fz.x_isi16, Fz.x_isi17, Fz.x_isi18, Fz.x_isi19, Fz.x_isi20, Fz.x_ttpf, Fz.x_ixfr0, Fz.x_ixfr1, Fz.x_lenfr, Fz.x_itfr, Fz.x_itT, Fz.x_itL, Fz.x_srcfr, Fz.x_eqfr, Fz.x_nefr, Fz.x_ufr, Fz.x_ll, Fz.x_calll, Fz.x_ienA, Fz.x_enA, Fz.x_enT, Fz.x_rvT, Fz.x_rvS, Fz.x_rvL, Fz.x_rvF, Fz.x_lcm, Fz.if_false', Fz.if_true', Fz.optQ_some, Fz.atI_0, Fz.atI_1, Fz.atI_n, Fz.ixN_0, Fz.ixN_1, Fz.ixN_n, List.set_cons_succ, List.set_cons_zero, List.getElem?_cons_succ, List.getElem?_cons_zero, List.length_cons, List.length_nil, List.map_cons, List.map_nil, List.replicate_succ, List.replicate_zero, List.cons_append, List.nil_append, List.append_assoc, List.append_nil, Fz.permL, List.filterMap_cons, List.filterMap_nil, List.length_set, List.set_set, Nat.reduceAdd, Nat.reduceLT, Nat.reduceLeDiff, Nat.reduceSub, Nat.reduceEqDiff, Int.reduceAdd, Int.reduceToNat, Int.reducePow, decide_eq_true_eq, if_true, if_false, ite_true, ite_false, true_and, and_true, not_false_eq_true, not_true_eq_false, false_and, and_false, Bool.false_eq_true, Bool.true_eq_false, Bool.not_true, Bool.not_false, Fz.cutD_map, Fz.ints_int, List.flatten_cons, List.flatten_nil, Nat.add_assoc, Fz.LINE, Fz.b62, and_assoc, List.all_cons, List.all_nil, Nat.le_refl, Option.map_some, List.cons_beq_cons, Nat.reduceBEq, Nat.reduceBNe, Bool.and_true, Bool.true_and, Bool.false_and, Bool.and_false, beq_self_eq_true, Bool.or_true, Bool.true_or, Bool.or_false, Bool.false_or, Fz.bls_map, List.length_append, List.length_map, List.length_take, List.length_drop, List.length_reverse, List.length_replicate, List.length_range, List.isEmpty_cons, List.isEmpty_nil, Int.reduceNeg, Int.reduceMul, Int.reduceSub, Int.reduceLT, Int.reduceLE, Int.reduceBEq, Int.reduceBNe, Int.reduceNe, Int.reduceEq, decide_true, decide_false, id, List.getElem?_nil, beq_iff_eq, bne_iff_ne, ne_eq, Bool.not_eq_true', Bool.and_eq_true, Bool.or_eq_true, beq_eq_false_iff_ne, Bool.not_eq_false', decide_eq_false_iff_not, Int.not_lt, Int.not_le, nI_0 ne, nI_last ne, lo, nI_len, p2])
  unfold G_train g_train
  simp -implicitDefEqProofs only [Fz.x_ok, Fz.x_stuck, Fz.x_exc, Fz.x_ite, Fz.x_bind, Fz.x_fl, Fz.x_fl0, Fz.x_fite, Fz.x_nx, Fz.x_rt, Fz.x_fst, Fz.x_opt, Fz.x_nil, Fz.x_seq, Fz.x_expr, Fz.x_ret, Fz.x_retN, Fz.x_brk, Fz.x_cnt, Fz.x_qstuck, Fz.x_if, Fz.x_asg, Fz.x_tg, Fz.x_tgn, Fz.x_asgO, Fz.x_co, Fz.x_par2, Fz.x_par3, Fz.x_panil, Fz.x_paE, Fz.x_paF, Fz.x_parO2, Fz.x_parO3, Fz.x_p2, Fz.x_p3, Fz.x_set, Fz.x_setQ, Fz.x_wp, Fz.x_pre, Fz.x_wipe0, Fz.x_wipeS, Fz.x_tnm, Fz.x_tsnil, Fz.x_tscons, Fz.x_ttp, Fz.x_ttl, Fz.x_ttlT, Fz.x_tsb, Fz.x_var, Fz.x_slV, Fz.x_slO, Fz.x_pk, Fz.x_pkV, Fz.x_pkO, Fz.x_c, Fz.x_1, Fz.x_2, Fz.x_2k, Fz.x_n, Fz.x_n1, Fz.x_eif, Fz.x_and, Fz.x_or, Fz.x_not, Fz.x_ch, Fz.x_sl, Fz.x_slL, Fz.x_slk, Fz.x_onone, Fz.x_osome, Fz.x_inO, Fz.x_m, Fz.x_app, Fz.x_ow, Fz.x_anil, Fz.x_acons, Fz.x_astar, Fz.x_aapp, Fz.x_tru, Fz.x_tbl, Fz.x_tnot, Fz.x_tand, Fz.x_tor, Fz.x_tyes, Fz.x_blO, Fz.x_ubl, Fz.x_uint, Fz.x_unon, Fz.x_utup, Fz.x_ulsv, Fz.x_call, Fz.x_oc, Fz.x_io, Fz.x_put, Fz.x_perm0, Fz.x_def, Fz.x_defF, Fz.x_outs0, Fz.x_outsT, Fz.x_outsF, Fz.x_for, Fz.x_iof, Fz.x_ien, Fz.x_iN, Fz.x_srcT, Fz.x_srcF, Fz.x_srcL, Fz.x_srcS, Fz.x_zip, Fz.x_zipT, Fz.x_en, Fz.x_lc, Fz.x_rest0, Fz.x_restS, Fz.x_rsV, Fz.x_rsN, Fz.x_rsO, Fz.x_some, Fz.x_map, Fz.x_obind, Fz.x_mul, Fz.x_sub, Fz.x_div, Fz.x_mod, Fz.x_pow, Fz.x_shl, Fz.x_shr, Fz.x_andI, Fz.x_cmp, Fz.x_neg, Fz.x_addI, Fz.x_addS, Fz.x_addT, Fz.x_addL, Fz.x_addLL, Fz.x_mulAI, Fz.x_mulAC, Fz.x_mulAL, Fz.x_mulLL, Fz.x_tup, Fz.x_lst, Fz.x_abs, Fz.x_max2, Fz.x_min2, Fz.x_gcd, Fz.x_intI, Fz.x_intB, Fz.x_dm, Fz.x_lenS, Fz.x_lenT, Fz.x_lenF, Fz.x_lenL, Fz.x_ixT, Fz.x_ixF, Fz.x_ixL, Fz.x_ixS, Fz.x_slT, Fz.x_slF, Fz.x_slLs, Fz.x_slS, Fz.x_slLF, Fz.x_slLL, Fz.x_revS, Fz.x_revL, Fz.x_tupleT, Fz.x_tupleF, Fz.x_tupleL, Fz.x_listT, Fz.x_listF, Fz.x_listL, Fz.x_sumL, Fz.x_sumT, Fz.x_sumF, Fz.x_all, Fz.x_any, Fz.x_r1, Fz.x_r2, Fz.x_r3, Fz.x_lr, Fz.x_join, Fz.x_tyS, Fz.x_tyL, Fz.x_eqQ, Fz.x_eqS, Fz.x_neS, Fz.x_eqI, Fz.x_neI, Fz.x_eqB, Fz.x_neB, Fz.x_eqT, Fz.x_neT, Fz.x_eqL, Fz.x_neL, Fz.x_pyI, Fz.x_pyS, Fz.x_pyB, Fz.x_pyN, Fz.x_pyT, Fz.x_pyF, Fz.x_pyL, Fz.x_mp0, Fz.x_mpC, Fz.x_mpO, Fz.x_omap, Fz.x_repr, Fz.x_rp, Fz.x_pyfr, Fz.x_mpfr, Fz.x_mpint, Fz.x_isN, Fz.x_isI, Fz.x_isS, Fz.x_isT, Fz.x_isL, Fz.x_isB, Fz.x_isBB, Fz.x_isfr, Fz.x_inC, Fz.x_ninC, Fz.x_isi1, Fz.x_isi2, Fz.x_isi3, Fz.x_isi4, Fz.x_isi5, Fz.x_isi6, Fz.x_isi7, Fz.x_isi8, Fz.x_isi9, Fz.x_isi10, Fz.x_isi11, Fz.x_isi12, Fz.x_isi13, Fz.x_isi14, Fz.x_isi15, Fz.x_isi16, Fz.x_isi17, Fz.x_isi18, Fz.x_isi19, Fz.x_isi20, Fz.x_ttpf, Fz.x_ixfr0, Fz.x_ixfr1, Fz.x_lenfr, Fz.x_itfr, Fz.x_itT, Fz.x_itL, Fz.x_srcfr, Fz.x_eqfr, Fz.x_nefr, Fz.x_ufr, Fz.x_ll, Fz.x_calll, Fz.x_ienA, Fz.x_enA, Fz.x_enT, Fz.x_rvT, Fz.x_rvS, Fz.x_rvL, Fz.x_rvF, Fz.x_lcm, Fz.if_false', Fz.if_true', Fz.optQ_some, Fz.atI_0, Fz.atI_1, Fz.atI_n, Fz.ixN_0, Fz.ixN_1, Fz.ixN_n, List.set_cons_succ, List.set_cons_zero, List.getElem?_cons_succ, List.getElem?_cons_zero, List.length_cons, List.length_nil, List.map_cons, List.map_nil, List.replicate_succ, List.replicate_zero, List.cons_append, List.nil_append, List.append_assoc, List.append_nil, Fz.permL, List.filterMap_cons, List.filterMap_nil, List.length_set, List.set_set, Nat.reduceAdd, Nat.reduceLT, Nat.reduceLeDiff, Nat.reduceSub, Nat.reduceEqDiff, Int.reduceAdd, Int.reduceToNat, Int.reducePow, decide_eq_true_eq, if_true, if_false, ite_true, ite_false, true_and, and_true, not_false_eq_true, not_true_eq_false, false_and, and_false, Bool.false_eq_true, Bool.true_eq_false, Bool.not_true, Bool.not_false, Fz.cutD_map, Fz.ints_int, List.flatten_cons, List.flatten_nil, Nat.add_assoc, Fz.LINE, Fz.b62, and_assoc, List.all_cons, List.all_nil, Nat.le_refl, Option.map_some, List.cons_beq_cons, Nat.reduceBEq, Nat.reduceBNe, Bool.and_true, Bool.true_and, Bool.false_and, Bool.and_false, beq_self_eq_true, Bool.or_true, Bool.true_or, Bool.or_false, Bool.false_or, Fz.bls_map, List.length_append, List.length_map, List.length_take, List.length_drop, List.length_reverse, List.length_replicate, List.length_range, List.isEmpty_cons, List.isEmpty_nil, Int.reduceNeg, Int.reduceMul, Int.reduceSub, Int.reduceLT, Int.reduceLE, Int.reduceBEq, Int.reduceBNe, Int.reduceNe, Int.reduceEq, decide_true, decide_false, id, List.getElem?_nil, beq_iff_eq, bne_iff_ne, ne_eq, Bool.not_eq_true', Bool.and_eq_true, Bool.or_eq_true, beq_eq_false_iff_ne, Bool.not_eq_false', decide_eq_false_iff_not, Int.not_lt, Int.not_le, check_train_ok h, e])
theorem turns_back_eq {l : List Nat} (h : wheels l) (ne : l ≠ []) : G_turns_back [.vl (.tup (nI l))] = .ok (.int (lcmL l / l.head ne : Nat)) [.no] := gsat_eq (by
  have hp : ∀ c ∈ l, 0 < c ∧ c ≤ 99 := fun c hc => by have := h.1 c hc; omega
  have hh := h.1 _ (List.head_mem ne)
  have e : G_back_by [.vl (.tup (nI l))] = .ok (.int (lcmL l / l.head ne : Nat)) [.no] := gsat_eq (by
    unfold G_back_by g_back_by
    simp -implicitDefEqProofs only [Fz.x_ok, Fz.x_stuck, Fz.x_exc, Fz.x_ite, Fz.x_bind, Fz.x_fl, Fz.x_fl0, Fz.x_fite, Fz.x_nx, Fz.x_rt, Fz.x_fst, Fz.x_opt, Fz.x_nil, Fz.x_seq, Fz.x_expr, Fz.x_ret, Fz.x_retN, Fz.x_brk, Fz.x_cnt, Fz.x_qstuck, Fz.x_if, Fz.x_asg, Fz.x_tg, Fz.x_tgn, Fz.x_asgO, Fz.x_co, Fz.x_par2, Fz.x_par3, Fz.x_panil, Fz.x_paE, Fz.x_paF, Fz.x_parO2, Fz.x_parO3, Fz.x_p2, Fz.x_p3, Fz.x_set, Fz.x_setQ, Fz.x_wp, Fz.x_pre, Fz.x_wipe0, Fz.x_wipeS, Fz.x_tnm, Fz.x_tsnil, Fz.x_tscons, Fz.x_ttp, Fz.x_ttl, Fz.x_ttlT, Fz.x_tsb, Fz.x_var, Fz.x_slV, Fz.x_slO, Fz.x_pk, Fz.x_pkV, Fz.x_pkO, Fz.x_c, Fz.x_1, Fz.x_2, Fz.x_2k, Fz.x_n, Fz.x_n1, Fz.x_eif, Fz.x_and, Fz.x_or, Fz.x_not, Fz.x_ch, Fz.x_sl, Fz.x_slL, Fz.x_slk, Fz.x_onone, Fz.x_osome, Fz.x_inO, Fz.x_m, Fz.x_app, Fz.x_ow, Fz.x_anil, Fz.x_acons, Fz.x_astar, Fz.x_aapp, Fz.x_tru, Fz.x_tbl, Fz.x_tnot, Fz.x_tand, Fz.x_tor, Fz.x_tyes, Fz.x_blO, Fz.x_ubl, Fz.x_uint, Fz.x_unon, Fz.x_utup, Fz.x_ulsv, Fz.x_call, Fz.x_oc, Fz.x_io, Fz.x_put, Fz.x_perm0, Fz.x_def, Fz.x_defF, Fz.x_outs0, Fz.x_outsT, Fz.x_outsF, Fz.x_for, Fz.x_iof, Fz.x_ien, Fz.x_iN, Fz.x_srcT, Fz.x_srcF, Fz.x_srcL, Fz.x_srcS, Fz.x_zip, Fz.x_zipT, Fz.x_en, Fz.x_lc, Fz.x_rest0, Fz.x_restS, Fz.x_rsV, Fz.x_rsN, Fz.x_rsO, Fz.x_some, Fz.x_map, Fz.x_obind, Fz.x_mul, Fz.x_sub, Fz.x_div, Fz.x_mod, Fz.x_pow, Fz.x_shl, Fz.x_shr, Fz.x_andI, Fz.x_cmp, Fz.x_neg, Fz.x_addI, Fz.x_addS, Fz.x_addT, Fz.x_addL, Fz.x_addLL, Fz.x_mulAI, Fz.x_mulAC, Fz.x_mulAL, Fz.x_mulLL, Fz.x_tup, Fz.x_lst, Fz.x_abs, Fz.x_max2, Fz.x_min2, Fz.x_gcd, Fz.x_intI, Fz.x_intB, Fz.x_dm, Fz.x_lenS, Fz.x_lenT, Fz.x_lenF, Fz.x_lenL, Fz.x_ixT, Fz.x_ixF, Fz.x_ixL, Fz.x_ixS, Fz.x_slT, Fz.x_slF, Fz.x_slLs, Fz.x_slS, Fz.x_slLF, Fz.x_slLL, Fz.x_revS, Fz.x_revL, Fz.x_tupleT, Fz.x_tupleF, Fz.x_tupleL, Fz.x_listT, Fz.x_listF, Fz.x_listL, Fz.x_sumL, Fz.x_sumT, Fz.x_sumF, Fz.x_all, Fz.x_any, Fz.x_r1, Fz.x_r2, Fz.x_r3, Fz.x_lr, Fz.x_join, Fz.x_tyS, Fz.x_tyL, Fz.x_eqQ, Fz.x_eqS, Fz.x_neS, Fz.x_eqI, Fz.x_neI, Fz.x_eqB, Fz.x_neB, Fz.x_eqT, Fz.x_neT, Fz.x_eqL, Fz.x_neL, Fz.x_pyI, Fz.x_pyS, Fz.x_pyB, Fz.x_pyN, Fz.x_pyT, Fz.x_pyF, Fz.x_pyL, Fz.x_mp0, Fz.x_mpC, Fz.x_mpO, Fz.x_omap, Fz.x_repr, Fz.x_rp, Fz.x_pyfr, Fz.x_mpfr, Fz.x_mpint, Fz.x_isN, Fz.x_isI, Fz.x_isS, Fz.x_isT, Fz.x_isL, Fz.x_isB, Fz.x_isBB, Fz.x_isfr, Fz.x_inC, Fz.x_ninC, Fz.x_isi1, Fz.x_isi2, Fz.x_isi3, Fz.x_isi4, Fz.x_isi5, Fz.x_isi6, Fz.x_isi7, Fz.x_isi8, Fz.x_isi9, Fz.x_isi10, Fz.x_isi11, Fz.x_isi12, Fz.x_isi13, Fz.x_isi14, Fz.x_isi15, Fz.x_isi16, Fz.x_isi17, Fz.x_isi18, Fz.x_isi19, Fz.x_isi20, Fz.x_ttpf, Fz.x_ixfr0, Fz.x_ixfr1, Fz.x_lenfr, Fz.x_itfr, Fz.x_itT, Fz.x_itL, Fz.x_srcfr, Fz.x_eqfr, Fz.x_nefr, Fz.x_ufr, Fz.x_ll, Fz.x_calll, Fz.x_ienA, Fz.x_enA, Fz.x_enT, Fz.x_rvT, Fz.x_rvS, Fz.x_rvL, Fz.x_rvF, Fz.x_lcm, Fz.if_false', Fz.if_true', Fz.optQ_some, Fz.atI_0, Fz.atI_1, Fz.atI_n, Fz.ixN_0, Fz.ixN_1, Fz.ixN_n, List.set_cons_succ, List.set_cons_zero, List.getElem?_cons_succ, List.getElem?_cons_zero, List.length_cons, List.length_nil, List.map_cons, List.map_nil, List.replicate_succ, List.replicate_zero, List.cons_append, List.nil_append, List.append_assoc, List.append_nil, Fz.permL, List.filterMap_cons, List.filterMap_nil, List.length_set, List.set_set, Nat.reduceAdd, Nat.reduceLT, Nat.reduceLeDiff, Nat.reduceSub, Nat.reduceEqDiff, Int.reduceAdd, Int.reduceToNat, Int.reducePow, decide_eq_true_eq, if_true, if_false, ite_true, ite_false, true_and, and_true, not_false_eq_true, not_true_eq_false, false_and, and_false, Bool.false_eq_true, Bool.true_eq_false, Bool.not_true, Bool.not_false, Fz.cutD_map, Fz.ints_int, List.flatten_cons, List.flatten_nil, Nat.add_assoc, Fz.LINE, Fz.b62, and_assoc, List.all_cons, List.all_nil, Nat.le_refl, Option.map_some, List.cons_beq_cons, Nat.reduceBEq, Nat.reduceBNe, Bool.and_true, Bool.true_and, Bool.false_and, Bool.and_false, beq_self_eq_true, Bool.or_true, Bool.true_or, Bool.or_false, Bool.false_or, Fz.bls_map, List.length_append, List.length_map, List.length_take, List.length_drop, List.length_reverse, List.length_replicate, List.length_range, List.isEmpty_cons, List.isEmpty_nil, Int.reduceNeg, Int.reduceMul, Int.reduceSub, Int.reduceLT, Int.reduceLE, Int.reduceBEq, Int.reduceBNe, Int.reduceNe, Int.reduceEq, decide_true, decide_false, id, List.getElem?_nil, beq_iff_eq, bne_iff_ne, ne_eq, Bool.not_eq_true', Bool.and_eq_true, Bool.or_eq_true, beq_eq_false_iff_ne, Bool.not_eq_false', decide_eq_false_iff_not, Int.not_lt, Int.not_le]
    unfold nI
    refine gforX (fun s : Nat => [.vl (.tup (nI l)), .vl (.int s), .no]) (fun i s => s = lcmL (l.take i)) 1 rfl (by simp [lcmL]) ?_ ?_
    · rintro i c s hc hs
      obtain ⟨hi, hc⟩ := List.getElem?_eq_some_iff.mp hc
      have b1 := lcmL_64 (take_all hp i) (by have := h.2.2; simp; omega)
      have b2 := hp c (by rw [← hc]; exact List.getElem_mem hi)
      rw [← hs] at b1
      simp -implicitDefEqProofs only [Fz.x_ok, Fz.x_stuck, Fz.x_exc, Fz.x_ite, Fz.x_bind, Fz.x_fl, Fz.x_fl0, Fz.x_fite, Fz.x_nx, Fz.x_rt, Fz.x_fst, Fz.x_opt, Fz.x_nil, Fz.x_seq, Fz.x_expr, Fz.x_ret, Fz.x_retN, Fz.x_brk, Fz.x_cnt, Fz.x_qstuck, Fz.x_if, Fz.x_asg, Fz.x_tg, Fz.x_tgn, Fz.x_asgO, Fz.x_co, Fz.x_par2, Fz.x_par3, Fz.x_panil, Fz.x_paE, Fz.x_paF, Fz.x_parO2, Fz.x_parO3, Fz.x_p2, Fz.x_p3, Fz.x_set, Fz.x_setQ, Fz.x_wp, Fz.x_pre, Fz.x_wipe0, Fz.x_wipeS, Fz.x_tnm, Fz.x_tsnil, Fz.x_tscons, Fz.x_ttp, Fz.x_ttl, Fz.x_ttlT, Fz.x_tsb, Fz.x_var, Fz.x_slV, Fz.x_slO, Fz.x_pk, Fz.x_pkV, Fz.x_pkO, Fz.x_c, Fz.x_1, Fz.x_2, Fz.x_2k, Fz.x_n, Fz.x_n1, Fz.x_eif, Fz.x_and, Fz.x_or, Fz.x_not, Fz.x_ch, Fz.x_sl, Fz.x_slL, Fz.x_slk, Fz.x_onone, Fz.x_osome, Fz.x_inO, Fz.x_m, Fz.x_app, Fz.x_ow, Fz.x_anil, Fz.x_acons, Fz.x_astar, Fz.x_aapp, Fz.x_tru, Fz.x_tbl, Fz.x_tnot, Fz.x_tand, Fz.x_tor, Fz.x_tyes, Fz.x_blO, Fz.x_ubl, Fz.x_uint, Fz.x_unon, Fz.x_utup, Fz.x_ulsv, Fz.x_call, Fz.x_oc, Fz.x_io, Fz.x_put, Fz.x_perm0, Fz.x_def, Fz.x_defF, Fz.x_outs0, Fz.x_outsT, Fz.x_outsF, Fz.x_for, Fz.x_iof, Fz.x_ien, Fz.x_iN, Fz.x_srcT, Fz.x_srcF, Fz.x_srcL, Fz.x_srcS, Fz.x_zip, Fz.x_zipT, Fz.x_en, Fz.x_lc, Fz.x_rest0, Fz.x_restS, Fz.x_rsV, Fz.x_rsN, Fz.x_rsO, Fz.x_some, Fz.x_map, Fz.x_obind, Fz.x_mul, Fz.x_sub, Fz.x_div, Fz.x_mod, Fz.x_pow, Fz.x_shl, Fz.x_shr, Fz.x_andI, Fz.x_cmp, Fz.x_neg, Fz.x_addI, Fz.x_addS, Fz.x_addT, Fz.x_addL, Fz.x_addLL, Fz.x_mulAI, Fz.x_mulAC, Fz.x_mulAL, Fz.x_mulLL, Fz.x_tup, Fz.x_lst, Fz.x_abs, Fz.x_max2, Fz.x_min2, Fz.x_gcd, Fz.x_intI, Fz.x_intB, Fz.x_dm, Fz.x_lenS, Fz.x_lenT, Fz.x_lenF, Fz.x_lenL, Fz.x_ixT, Fz.x_ixF, Fz.x_ixL, Fz.x_ixS, Fz.x_slT, Fz.x_slF, Fz.x_slLs, Fz.x_slS, Fz.x_slLF, Fz.x_slLL, Fz.x_revS, Fz.x_revL, Fz.x_tupleT, Fz.x_tupleF, Fz.x_tupleL, Fz.x_listT, Fz.x_listF, Fz.x_listL, Fz.x_sumL, Fz.x_sumT, Fz.x_sumF, Fz.x_all, Fz.x_any, Fz.x_r1, Fz.x_r2, Fz.x_r3, Fz.x_lr, Fz.x_join, Fz.x_tyS, Fz.x_tyL, Fz.x_eqQ, Fz.x_eqS, Fz.x_neS, Fz.x_eqI, Fz.x_neI, Fz.x_eqB, Fz.x_neB, Fz.x_eqT, Fz.x_neT, Fz.x_eqL, Fz.x_neL, Fz.x_pyI, Fz.x_pyS, Fz.x_pyB, Fz.x_pyN, Fz.x_pyT, Fz.x_pyF, Fz.x_pyL, Fz.x_mp0, Fz.x_mpC, Fz.x_mpO, Fz.x_omap, Fz.x_repr, Fz.x_rp, Fz.x_pyfr, Fz.x_mpfr, Fz.x_mpint, Fz.x_isN, Fz.x_isI, Fz.x_isS, Fz.x_isT, Fz.x_isL, Fz.x_isB, Fz.x_isBB, Fz.x_isfr, Fz.x_inC, Fz.x_ninC, Fz.x_isi1, Fz.x_isi2, Fz.x_isi3, Fz.x_isi4, Fz.x_isi5, Fz.x_isi6, Fz.x_isi7, Fz.x_isi8, Fz.x_isi9, Fz.x_isi10, Fz.x_isi11, Fz.x_isi12, Fz.x_isi13, Fz.x_isi14, Fz.x_isi15, Fz.x_isi16, Fz.x_isi17, Fz.x_isi18, Fz.x_isi19, Fz.x_isi20, Fz.x_ttpf, Fz.x_ixfr0, Fz.x_ixfr1, Fz.x_lenfr, Fz.x_itfr, Fz.x_itT, Fz.x_itL, Fz.x_srcfr, Fz.x_eqfr, Fz.x_nefr, Fz.x_ufr, Fz.x_ll, Fz.x_calll, Fz.x_ienA, Fz.x_enA, Fz.x_enT, Fz.x_rvT, Fz.x_rvS, Fz.x_rvL, Fz.x_rvF, Fz.x_lcm, Fz.if_false', Fz.if_true', Fz.optQ_some, Fz.atI_0, Fz.atI_1, Fz.atI_n, Fz.ixN_0, Fz.ixN_1, Fz.ixN_n, List.set_cons_succ, List.set_cons_zero, List.getElem?_cons_succ, List.getElem?_cons_zero, List.length_cons, List.length_nil, List.map_cons, List.map_nil, List.replicate_succ, List.replicate_zero, List.cons_append, List.nil_append, List.append_assoc, List.append_nil, Fz.permL, List.filterMap_cons, List.filterMap_nil, List.length_set, List.set_set, Nat.reduceAdd, Nat.reduceLT, Nat.reduceLeDiff, Nat.reduceSub, Nat.reduceEqDiff, Int.reduceAdd, Int.reduceToNat, Int.reducePow, decide_eq_true_eq, if_true, if_false, ite_true, ite_false, true_and, and_true, not_false_eq_true, not_true_eq_false, false_and, and_false, Bool.false_eq_true, Bool.true_eq_false, Bool.not_true, Bool.not_false, Fz.cutD_map, Fz.ints_int, List.flatten_cons, List.flatten_nil, Nat.add_assoc, Fz.LINE, Fz.b62, and_assoc, List.all_cons, List.all_nil, Nat.le_refl, Option.map_some, List.cons_beq_cons, Nat.reduceBEq, Nat.reduceBNe, Bool.and_true, Bool.true_and, Bool.false_and, Bool.and_false, beq_self_eq_true, Bool.or_true, Bool.true_or, Bool.or_false, Bool.false_or, Fz.bls_map, List.length_append, List.length_map, List.length_take, List.length_drop, List.length_reverse, List.length_replicate, List.length_range, List.isEmpty_cons, List.isEmpty_nil, Int.reduceNeg, Int.reduceMul, Int.reduceSub, Int.reduceLT, Int.reduceLE, Int.reduceBEq, Int.reduceBNe, Int.reduceNe, Int.reduceEq, decide_true, decide_false, id, List.getElem?_nil, beq_iff_eq, bne_iff_ne, ne_eq, Bool.not_eq_true', Bool.and_eq_true, Bool.or_eq_true, beq_eq_false_iff_ne, Bool.not_eq_false', decide_eq_false_iff_not, Int.not_lt, Int.not_le, Int.natAbs_natCast]
      refine ⟨by omega, by omega, _, rfl, ?_⟩
      rw [lcmL_take hi, ← hs, hc]
    · intro s hs
      rw [List.take_length] at hs
      have : (0 : Int) < ((l.head ne : Nat) : Int) := by omega
      simp -implicitDefEqProofs only [Fz.x_ok, Fz.x_stuck, Fz.x_exc, Fz.x_ite, Fz.x_bind, Fz.x_fl, Fz.x_fl0, Fz.x_fite, Fz.x_nx, Fz.x_rt, Fz.x_fst, Fz.x_opt, Fz.x_nil, Fz.x_seq, Fz.x_expr, Fz.x_ret, Fz.x_retN, Fz.x_brk, Fz.x_cnt, Fz.x_qstuck, Fz.x_if, Fz.x_asg, Fz.x_tg, Fz.x_tgn, Fz.x_asgO, Fz.x_co, Fz.x_par2, Fz.x_par3, Fz.x_panil, Fz.x_paE, Fz.x_paF, Fz.x_parO2, Fz.x_parO3, Fz.x_p2, Fz.x_p3, Fz.x_set, Fz.x_setQ, Fz.x_wp, Fz.x_pre, Fz.x_wipe0, Fz.x_wipeS, Fz.x_tnm, Fz.x_tsnil, Fz.x_tscons, Fz.x_ttp, Fz.x_ttl, Fz.x_ttlT, Fz.x_tsb, Fz.x_var, Fz.x_slV, Fz.x_slO, Fz.x_pk, Fz.x_pkV, Fz.x_pkO, Fz.x_c, Fz.x_1, Fz.x_2, Fz.x_2k, Fz.x_n, Fz.x_n1, Fz.x_eif, Fz.x_and, Fz.x_or, Fz.x_not, Fz.x_ch, Fz.x_sl, Fz.x_slL, Fz.x_slk, Fz.x_onone, Fz.x_osome, Fz.x_inO, Fz.x_m, Fz.x_app, Fz.x_ow, Fz.x_anil, Fz.x_acons, Fz.x_astar, Fz.x_aapp, Fz.x_tru, Fz.x_tbl, Fz.x_tnot, Fz.x_tand, Fz.x_tor, Fz.x_tyes, Fz.x_blO, Fz.x_ubl, Fz.x_uint, Fz.x_unon, Fz.x_utup, Fz.x_ulsv, Fz.x_call, Fz.x_oc, Fz.x_io, Fz.x_put, Fz.x_perm0, Fz.x_def, Fz.x_defF, Fz.x_outs0, Fz.x_outsT, Fz.x_outsF, Fz.x_for, Fz.x_iof, Fz.x_ien, Fz.x_iN, Fz.x_srcT, Fz.x_srcF, Fz.x_srcL, Fz.x_srcS, Fz.x_zip, Fz.x_zipT, Fz.x_en, Fz.x_lc, Fz.x_rest0, Fz.x_restS, Fz.x_rsV, Fz.x_rsN, Fz.x_rsO, Fz.x_some, Fz.x_map, Fz.x_obind, Fz.x_mul, Fz.x_sub, Fz.x_div, Fz.x_mod, Fz.x_pow, Fz.x_shl, Fz.x_shr, Fz.x_andI, Fz.x_cmp, Fz.x_neg, Fz.x_addI, Fz.x_addS, Fz.x_addT, Fz.x_addL, Fz.x_addLL, Fz.x_mulAI, Fz.x_mulAC, Fz.x_mulAL, Fz.x_mulLL, Fz.x_tup, Fz.x_lst, Fz.x_abs, Fz.x_max2, Fz.x_min2, Fz.x_gcd, Fz.x_intI, Fz.x_intB, Fz.x_dm, Fz.x_lenS, Fz.x_lenT, Fz.x_lenF, Fz.x_lenL, Fz.x_ixT, Fz.x_ixF, Fz.x_ixL, Fz.x_ixS, Fz.x_slT, Fz.x_slF, Fz.x_slLs, Fz.x_slS, Fz.x_slLF, Fz.x_slLL, Fz.x_revS, Fz.x_revL, Fz.x_tupleT, Fz.x_tupleF, Fz.x_tupleL, Fz.x_listT, Fz.x_listF, Fz.x_listL, Fz.x_sumL, Fz.x_sumT, Fz.x_sumF, Fz.x_all, Fz.x_any, Fz.x_r1, Fz.x_r2, Fz.x_r3, Fz.x_lr, Fz.x_join, Fz.x_tyS, Fz.x_tyL, Fz.x_eqQ, Fz.x_eqS, Fz.x_neS, Fz.x_eqI, Fz.x_neI, Fz.x_eqB, Fz.x_neB, Fz.x_eqT, Fz.x_neT, Fz.x_eqL, Fz.x_neL, Fz.x_pyI, Fz.x_pyS, Fz.x_pyB, Fz.x_pyN, Fz.x_pyT, Fz.x_pyF, Fz.x_pyL, Fz.x_mp0, Fz.x_mpC, Fz.x_mpO, Fz.x_omap, Fz.x_repr, Fz.x_rp, Fz.x_pyfr, Fz.x_mpfr, Fz.x_mpint, Fz.x_isN, Fz.x_isI, Fz.x_isS, Fz.x_isT, Fz.x_isL, Fz.x_isB, Fz.x_isBB, Fz.x_isfr, Fz.x_inC, Fz.x_ninC, Fz.x_isi1, Fz.x_isi2, Fz.x_isi3, Fz.x_isi4, Fz.x_isi5, Fz.x_isi6, Fz.x_isi7, Fz.x_isi8, Fz.x_isi9, Fz.x_isi10, Fz.x_isi11, Fz.x_isi12, Fz.x_isi13, Fz.x_isi14, Fz.x_isi15, Fz.x_isi16, Fz.x_isi17, Fz.x_isi18, Fz.x_isi19, Fz.x_isi20, Fz.x_ttpf, Fz.x_ixfr0, Fz.x_ixfr1, Fz.x_lenfr, Fz.x_itfr, Fz.x_itT, Fz.x_itL, Fz.x_srcfr, Fz.x_eqfr, Fz.x_nefr, Fz.x_ufr, Fz.x_ll, Fz.x_calll, Fz.x_ienA, Fz.x_enA, Fz.x_enT, Fz.x_rvT, Fz.x_rvS, Fz.x_rvL, Fz.x_rvF, Fz.x_lcm, Fz.if_false', Fz.if_true', Fz.optQ_some, Fz.atI_0, Fz.atI_1, Fz.atI_n, Fz.ixN_0, Fz.ixN_1, Fz.ixN_n, List.set_cons_succ, List.set_cons_zero, List.getElem?_cons_succ, List.getElem?_cons_zero, List.length_cons, List.length_nil, List.map_cons, List.map_nil, List.replicate_succ, List.replicate_zero, List.cons_append, List.nil_append, List.append_assoc, List.append_nil, Fz.permL, List.filterMap_cons, List.filterMap_nil, List.length_set, List.set_set, Nat.reduceAdd, Nat.reduceLT, Nat.reduceLeDiff, Nat.reduceSub, Nat.reduceEqDiff, Int.reduceAdd, Int.reduceToNat, Int.reducePow, decide_eq_true_eq, if_true, if_false, ite_true, ite_false, true_and, and_true, not_false_eq_true, not_true_eq_false, false_and, and_false, Bool.false_eq_true, Bool.true_eq_false, Bool.not_true, Bool.not_false, Fz.cutD_map, Fz.ints_int, List.flatten_cons, List.flatten_nil, Nat.add_assoc, Fz.LINE, Fz.b62, and_assoc, List.all_cons, List.all_nil, Nat.le_refl, Option.map_some, List.cons_beq_cons, Nat.reduceBEq, Nat.reduceBNe, Bool.and_true, Bool.true_and, Bool.false_and, Bool.and_false, beq_self_eq_true, Bool.or_true, Bool.true_or, Bool.or_false, Bool.false_or, Fz.bls_map, List.length_append, List.length_map, List.length_take, List.length_drop, List.length_reverse, List.length_replicate, List.length_range, List.isEmpty_cons, List.isEmpty_nil, Int.reduceNeg, Int.reduceMul, Int.reduceSub, Int.reduceLT, Int.reduceLE, Int.reduceBEq, Int.reduceBNe, Int.reduceNe, Int.reduceEq, decide_true, decide_false, id, List.getElem?_nil, beq_iff_eq, bne_iff_ne, ne_eq, Bool.not_eq_true', Bool.and_eq_true, Bool.or_eq_true, beq_eq_false_iff_ne, Bool.not_eq_false', decide_eq_false_iff_not, Int.not_lt, Int.not_le, nI_0 ne, hs]
      exact ⟨dv_s (by omega) (by omega), rfl⟩)
  unfold G_turns_back g_turns_back
  simp -implicitDefEqProofs only [Fz.x_ok, Fz.x_stuck, Fz.x_exc, Fz.x_ite, Fz.x_bind, Fz.x_fl, Fz.x_fl0, Fz.x_fite, Fz.x_nx, Fz.x_rt, Fz.x_fst, Fz.x_opt, Fz.x_nil, Fz.x_seq, Fz.x_expr, Fz.x_ret, Fz.x_retN, Fz.x_brk, Fz.x_cnt, Fz.x_qstuck, Fz.x_if, Fz.x_asg, Fz.x_tg, Fz.x_tgn, Fz.x_asgO, Fz.x_co, Fz.x_par2, Fz.x_par3, Fz.x_panil, Fz.x_paE, Fz.x_paF, Fz.x_parO2, Fz.x_parO3, Fz.x_p2, Fz.x_p3, Fz.x_set, Fz.x_setQ, Fz.x_wp, Fz.x_pre, Fz.x_wipe0, Fz.x_wipeS, Fz.x_tnm, Fz.x_tsnil, Fz.x_tscons, Fz.x_ttp, Fz.x_ttl, Fz.x_ttlT, Fz.x_tsb, Fz.x_var, Fz.x_slV, Fz.x_slO, Fz.x_pk, Fz.x_pkV, Fz.x_pkO, Fz.x_c, Fz.x_1, Fz.x_2, Fz.x_2k, Fz.x_n, Fz.x_n1, Fz.x_eif, Fz.x_and, Fz.x_or, Fz.x_not, Fz.x_ch, Fz.x_sl, Fz.x_slL, Fz.x_slk, Fz.x_onone, Fz.x_osome, Fz.x_inO, Fz.x_m, Fz.x_app, Fz.x_ow, Fz.x_anil, Fz.x_acons, Fz.x_astar, Fz.x_aapp, Fz.x_tru, Fz.x_tbl, Fz.x_tnot, Fz.x_tand, Fz.x_tor, Fz.x_tyes, Fz.x_blO, Fz.x_ubl, Fz.x_uint, Fz.x_unon, Fz.x_utup, Fz.x_ulsv, Fz.x_call, Fz.x_oc, Fz.x_io, Fz.x_put, Fz.x_perm0, Fz.x_def, Fz.x_defF, Fz.x_outs0, Fz.x_outsT, Fz.x_outsF, Fz.x_for, Fz.x_iof, Fz.x_ien, Fz.x_iN, Fz.x_srcT, Fz.x_srcF, Fz.x_srcL, Fz.x_srcS, Fz.x_zip, Fz.x_zipT, Fz.x_en, Fz.x_lc, Fz.x_rest0, Fz.x_restS, Fz.x_rsV, Fz.x_rsN, Fz.x_rsO, Fz.x_some, Fz.x_map, Fz.x_obind, Fz.x_mul, Fz.x_sub, Fz.x_div, Fz.x_mod, Fz.x_pow, Fz.x_shl, Fz.x_shr, Fz.x_andI, Fz.x_cmp, Fz.x_neg, Fz.x_addI, Fz.x_addS, Fz.x_addT, Fz.x_addL, Fz.x_addLL, Fz.x_mulAI, Fz.x_mulAC, Fz.x_mulAL, Fz.x_mulLL, Fz.x_tup, Fz.x_lst, Fz.x_abs, Fz.x_max2, Fz.x_min2, Fz.x_gcd, Fz.x_intI, Fz.x_intB, Fz.x_dm, Fz.x_lenS, Fz.x_lenT, Fz.x_lenF, Fz.x_lenL, Fz.x_ixT, Fz.x_ixF, Fz.x_ixL, Fz.x_ixS, Fz.x_slT, Fz.x_slF, Fz.x_slLs, Fz.x_slS, Fz.x_slLF, Fz.x_slLL, Fz.x_revS, Fz.x_revL, Fz.x_tupleT, Fz.x_tupleF, Fz.x_tupleL, Fz.x_listT, Fz.x_listF, Fz.x_listL, Fz.x_sumL, Fz.x_sumT, Fz.x_sumF, Fz.x_all, Fz.x_any, Fz.x_r1, Fz.x_r2, Fz.x_r3, Fz.x_lr, Fz.x_join, Fz.x_tyS, Fz.x_tyL, Fz.x_eqQ, Fz.x_eqS, Fz.x_neS, Fz.x_eqI, Fz.x_neI, Fz.x_eqB, Fz.x_neB, Fz.x_eqT, Fz.x_neT, Fz.x_eqL, Fz.x_neL, Fz.x_pyI, Fz.x_pyS, Fz.x_pyB, Fz.x_pyN, Fz.x_pyT, Fz.x_pyF, Fz.x_pyL, Fz.x_mp0, Fz.x_mpC, Fz.x_mpO, Fz.x_omap, Fz.x_repr, Fz.x_rp, Fz.x_pyfr, Fz.x_mpfr, Fz.x_mpint, Fz.x_isN, Fz.x_isI, Fz.x_isS, Fz.x_isT, Fz.x_isL, Fz.x_isB, Fz.x_isBB, Fz.x_isfr, Fz.x_inC, Fz.x_ninC, Fz.x_isi1, Fz.x_isi2, Fz.x_isi3, Fz.x_isi4, Fz.x_isi5, Fz.x_isi6, Fz.x_isi7, Fz.x_isi8, Fz.x_isi9, Fz.x_isi10, Fz.x_isi11, Fz.x_isi12, Fz.x_isi13, Fz.x_isi14, Fz.x_isi15, Fz.x_isi16, Fz.x_isi17, Fz.x_isi18, Fz.x_isi19, Fz.x_isi20, Fz.x_ttpf, Fz.x_ixfr0, Fz.x_ixfr1, Fz.x_lenfr, Fz.x_itfr, Fz.x_itT, Fz.x_itL, Fz.x_srcfr, Fz.x_eqfr, Fz.x_nefr, Fz.x_ufr, Fz.x_ll, Fz.x_calll, Fz.x_ienA, Fz.x_enA, Fz.x_enT, Fz.x_rvT, Fz.x_rvS, Fz.x_rvL, Fz.x_rvF, Fz.x_lcm, Fz.if_false', Fz.if_true', Fz.optQ_some, Fz.atI_0, Fz.atI_1, Fz.atI_n, Fz.ixN_0, Fz.ixN_1, Fz.ixN_n, List.set_cons_succ, List.set_cons_zero, List.getElem?_cons_succ, List.getElem?_cons_zero, List.length_cons, List.length_nil, List.map_cons, List.map_nil, List.replicate_succ, List.replicate_zero, List.cons_append, List.nil_append, List.append_assoc, List.append_nil, Fz.permL, List.filterMap_cons, List.filterMap_nil, List.length_set, List.set_set, Nat.reduceAdd, Nat.reduceLT, Nat.reduceLeDiff, Nat.reduceSub, Nat.reduceEqDiff, Int.reduceAdd, Int.reduceToNat, Int.reducePow, decide_eq_true_eq, if_true, if_false, ite_true, ite_false, true_and, and_true, not_false_eq_true, not_true_eq_false, false_and, and_false, Bool.false_eq_true, Bool.true_eq_false, Bool.not_true, Bool.not_false, Fz.cutD_map, Fz.ints_int, List.flatten_cons, List.flatten_nil, Nat.add_assoc, Fz.LINE, Fz.b62, and_assoc, List.all_cons, List.all_nil, Nat.le_refl, Option.map_some, List.cons_beq_cons, Nat.reduceBEq, Nat.reduceBNe, Bool.and_true, Bool.true_and, Bool.false_and, Bool.and_false, beq_self_eq_true, Bool.or_true, Bool.true_or, Bool.or_false, Bool.false_or, Fz.bls_map, List.length_append, List.length_map, List.length_take, List.length_drop, List.length_reverse, List.length_replicate, List.length_range, List.isEmpty_cons, List.isEmpty_nil, Int.reduceNeg, Int.reduceMul, Int.reduceSub, Int.reduceLT, Int.reduceLE, Int.reduceBEq, Int.reduceBNe, Int.reduceNe, Int.reduceEq, decide_true, decide_false, id, List.getElem?_nil, beq_iff_eq, bne_iff_ne, ne_eq, Bool.not_eq_true', Bool.and_eq_true, Bool.or_eq_true, beq_eq_false_iff_ne, Bool.not_eq_false', decide_eq_false_iff_not, Int.not_lt, Int.not_le, check_train_ok h, e])
theorem is_hunting_eq {a b : Nat} (ha : 6 ≤ a ∧ a ≤ 99) (hb : 6 ≤ b ∧ b ≤ 99) : G_is_hunting [.vl (.int a), .vl (.int b)] = .ok (.bl (Nat.gcd a b == 1)) [.no, .no] := gsat_eq (by
  have c : G_check_teeth [.vl (.int a), .vl (.int b)] = .ok .non [.no, .no] := gsat_eq (by
    unfold G_check_teeth g_check_teeth
    simp -implicitDefEqProofs only [Fz.x_ok, Fz.x_stuck, Fz.x_exc, Fz.x_ite, Fz.x_bind, Fz.x_fl, Fz.x_fl0, Fz.x_fite, Fz.x_nx, Fz.x_rt, Fz.x_fst, Fz.x_opt, Fz.x_nil, Fz.x_seq, Fz.x_expr, Fz.x_ret, Fz.x_retN, Fz.x_brk, Fz.x_cnt, Fz.x_qstuck, Fz.x_if, Fz.x_asg, Fz.x_tg, Fz.x_tgn, Fz.x_asgO, Fz.x_co, Fz.x_par2, Fz.x_par3, Fz.x_panil, Fz.x_paE, Fz.x_paF, Fz.x_parO2, Fz.x_parO3, Fz.x_p2, Fz.x_p3, Fz.x_set, Fz.x_setQ, Fz.x_wp, Fz.x_pre, Fz.x_wipe0, Fz.x_wipeS, Fz.x_tnm, Fz.x_tsnil, Fz.x_tscons, Fz.x_ttp, Fz.x_ttl, Fz.x_ttlT, Fz.x_tsb, Fz.x_var, Fz.x_slV, Fz.x_slO, Fz.x_pk, Fz.x_pkV, Fz.x_pkO, Fz.x_c, Fz.x_1, Fz.x_2, Fz.x_2k, Fz.x_n, Fz.x_n1, Fz.x_eif, Fz.x_and, Fz.x_or, Fz.x_not, Fz.x_ch, Fz.x_sl, Fz.x_slL, Fz.x_slk, Fz.x_onone, Fz.x_osome, Fz.x_inO, Fz.x_m, Fz.x_app, Fz.x_ow, Fz.x_anil, Fz.x_acons, Fz.x_astar, Fz.x_aapp, Fz.x_tru, Fz.x_tbl, Fz.x_tnot, Fz.x_tand, Fz.x_tor, Fz.x_tyes, Fz.x_blO, Fz.x_ubl, Fz.x_uint, Fz.x_unon, Fz.x_utup, Fz.x_ulsv, Fz.x_call, Fz.x_oc, Fz.x_io, Fz.x_put, Fz.x_perm0, Fz.x_def, Fz.x_defF, Fz.x_outs0, Fz.x_outsT, Fz.x_outsF, Fz.x_for, Fz.x_iof, Fz.x_ien, Fz.x_iN, Fz.x_srcT, Fz.x_srcF, Fz.x_srcL, Fz.x_srcS, Fz.x_zip, Fz.x_zipT, Fz.x_en, Fz.x_lc, Fz.x_rest0, Fz.x_restS, Fz.x_rsV, Fz.x_rsN, Fz.x_rsO, Fz.x_some, Fz.x_map, Fz.x_obind, Fz.x_mul, Fz.x_sub, Fz.x_div, Fz.x_mod, Fz.x_pow, Fz.x_shl, Fz.x_shr, Fz.x_andI, Fz.x_cmp, Fz.x_neg, Fz.x_addI, Fz.x_addS, Fz.x_addT, Fz.x_addL, Fz.x_addLL, Fz.x_mulAI, Fz.x_mulAC, Fz.x_mulAL, Fz.x_mulLL, Fz.x_tup, Fz.x_lst, Fz.x_abs, Fz.x_max2, Fz.x_min2, Fz.x_gcd, Fz.x_intI, Fz.x_intB, Fz.x_dm, Fz.x_lenS, Fz.x_lenT, Fz.x_lenF, Fz.x_lenL, Fz.x_ixT, Fz.x_ixF, Fz.x_ixL, Fz.x_ixS, Fz.x_slT, Fz.x_slF, Fz.x_slLs, Fz.x_slS, Fz.x_slLF, Fz.x_slLL, Fz.x_revS, Fz.x_revL, Fz.x_tupleT, Fz.x_tupleF, Fz.x_tupleL, Fz.x_listT, Fz.x_listF, Fz.x_listL, Fz.x_sumL, Fz.x_sumT, Fz.x_sumF, Fz.x_all, Fz.x_any, Fz.x_r1, Fz.x_r2, Fz.x_r3, Fz.x_lr, Fz.x_join, Fz.x_tyS, Fz.x_tyL, Fz.x_eqQ, Fz.x_eqS, Fz.x_neS, Fz.x_eqI, Fz.x_neI, Fz.x_eqB, Fz.x_neB, Fz.x_eqT, Fz.x_neT, Fz.x_eqL, Fz.x_neL, Fz.x_pyI, Fz.x_pyS, Fz.x_pyB, Fz.x_pyN, Fz.x_pyT, Fz.x_pyF, Fz.x_pyL, Fz.x_mp0, Fz.x_mpC, Fz.x_mpO, Fz.x_omap, Fz.x_repr, Fz.x_rp, Fz.x_pyfr, Fz.x_mpfr, Fz.x_mpint, Fz.x_isN, Fz.x_isI, Fz.x_isS, Fz.x_isT, Fz.x_isL, Fz.x_isB, Fz.x_isBB, Fz.x_isfr, Fz.x_inC, Fz.x_ninC, Fz.x_isi1, Fz.x_isi2, Fz.x_isi3, Fz.x_isi4, Fz.x_isi5, Fz.x_isi6, Fz.x_isi7, Fz.x_isi8, Fz.x_isi9, Fz.x_isi10, Fz.x_isi11, Fz.x_isi12, Fz.x_isi13, Fz.x_isi14, Fz.x_isi15, Fz.x_isi16, Fz.x_isi17, Fz.x_isi18, Fz.x_isi19, Fz.x_isi20, Fz.x_ttpf, Fz.x_ixfr0, Fz.x_ixfr1, Fz.x_lenfr, Fz.x_itfr, Fz.x_itT, Fz.x_itL, Fz.x_srcfr, Fz.x_eqfr, Fz.x_nefr, Fz.x_ufr, Fz.x_ll, Fz.x_calll, Fz.x_ienA, Fz.x_enA, Fz.x_enT, Fz.x_rvT, Fz.x_rvS, Fz.x_rvL, Fz.x_rvF, Fz.x_lcm, Fz.if_false', Fz.if_true', Fz.optQ_some, Fz.atI_0, Fz.atI_1, Fz.atI_n, Fz.ixN_0, Fz.ixN_1, Fz.ixN_n, List.set_cons_succ, List.set_cons_zero, List.getElem?_cons_succ, List.getElem?_cons_zero, List.length_cons, List.length_nil, List.map_cons, List.map_nil, List.replicate_succ, List.replicate_zero, List.cons_append, List.nil_append, List.append_assoc, List.append_nil, Fz.permL, List.filterMap_cons, List.filterMap_nil, List.length_set, List.set_set, Nat.reduceAdd, Nat.reduceLT, Nat.reduceLeDiff, Nat.reduceSub, Nat.reduceEqDiff, Int.reduceAdd, Int.reduceToNat, Int.reducePow, decide_eq_true_eq, if_true, if_false, ite_true, ite_false, true_and, and_true, not_false_eq_true, not_true_eq_false, false_and, and_false, Bool.false_eq_true, Bool.true_eq_false, Bool.not_true, Bool.not_false, Fz.cutD_map, Fz.ints_int, List.flatten_cons, List.flatten_nil, Nat.add_assoc, Fz.LINE, Fz.b62, and_assoc, List.all_cons, List.all_nil, Nat.le_refl, Option.map_some, List.cons_beq_cons, Nat.reduceBEq, Nat.reduceBNe, Bool.and_true, Bool.true_and, Bool.false_and, Bool.and_false, beq_self_eq_true, Bool.or_true, Bool.true_or, Bool.or_false, Bool.false_or, Fz.bls_map, List.length_append, List.length_map, List.length_take, List.length_drop, List.length_reverse, List.length_replicate, List.length_range, List.isEmpty_cons, List.isEmpty_nil, Int.reduceNeg, Int.reduceMul, Int.reduceSub, Int.reduceLT, Int.reduceLE, Int.reduceBEq, Int.reduceBNe, Int.reduceNe, Int.reduceEq, decide_true, decide_false, id, List.getElem?_nil, beq_iff_eq, bne_iff_ne, ne_eq, Bool.not_eq_true', Bool.and_eq_true, Bool.or_eq_true, beq_eq_false_iff_ne, Bool.not_eq_false', decide_eq_false_iff_not, Int.not_lt, Int.not_le]
    refine gforX (xs := [(a : Int), (b : Int)]) (f := D.int) (fun _ : Unit => [.vl (.int a), .vl (.int b), .no]) (fun _ _ => True) () rfl trivial ?_ ?_
    · rintro i v s hv -
      have : 6 ≤ v ∧ v ≤ 99 := by
        have := List.mem_of_getElem? hv
        simp at this
        rcases this with rfl | rfl <;> omega
      simp -implicitDefEqProofs only [Fz.x_ok, Fz.x_stuck, Fz.x_exc, Fz.x_ite, Fz.x_bind, Fz.x_fl, Fz.x_fl0, Fz.x_fite, Fz.x_nx, Fz.x_rt, Fz.x_fst, Fz.x_opt, Fz.x_nil, Fz.x_seq, Fz.x_expr, Fz.x_ret, Fz.x_retN, Fz.x_brk, Fz.x_cnt, Fz.x_qstuck, Fz.x_if, Fz.x_asg, Fz.x_tg, Fz.x_tgn, Fz.x_asgO, Fz.x_co, Fz.x_par2, Fz.x_par3, Fz.x_panil, Fz.x_paE, Fz.x_paF, Fz.x_parO2, Fz.x_parO3, Fz.x_p2, Fz.x_p3, Fz.x_set, Fz.x_setQ, Fz.x_wp, Fz.x_pre, Fz.x_wipe0, Fz.x_wipeS, Fz.x_tnm, Fz.x_tsnil, Fz.x_tscons, Fz.x_ttp, Fz.x_ttl, Fz.x_ttlT, Fz.x_tsb, Fz.x_var, Fz.x_slV, Fz.x_slO, Fz.x_pk, Fz.x_pkV, Fz.x_pkO, Fz.x_c, Fz.x_1, Fz.x_2, Fz.x_2k, Fz.x_n, Fz.x_n1, Fz.x_eif, Fz.x_and, Fz.x_or, Fz.x_not, Fz.x_ch, Fz.x_sl, Fz.x_slL, Fz.x_slk, Fz.x_onone, Fz.x_osome, Fz.x_inO, Fz.x_m, Fz.x_app, Fz.x_ow, Fz.x_anil, Fz.x_acons, Fz.x_astar, Fz.x_aapp, Fz.x_tru, Fz.x_tbl, Fz.x_tnot, Fz.x_tand, Fz.x_tor, Fz.x_tyes, Fz.x_blO, Fz.x_ubl, Fz.x_uint, Fz.x_unon, Fz.x_utup, Fz.x_ulsv, Fz.x_call, Fz.x_oc, Fz.x_io, Fz.x_put, Fz.x_perm0, Fz.x_def, Fz.x_defF, Fz.x_outs0, Fz.x_outsT, Fz.x_outsF, Fz.x_for, Fz.x_iof, Fz.x_ien, Fz.x_iN, Fz.x_srcT, Fz.x_srcF, Fz.x_srcL, Fz.x_srcS, Fz.x_zip, Fz.x_zipT, Fz.x_en, Fz.x_lc, Fz.x_rest0, Fz.x_restS, Fz.x_rsV, Fz.x_rsN, Fz.x_rsO, Fz.x_some, Fz.x_map, Fz.x_obind, Fz.x_mul, Fz.x_sub, Fz.x_div, Fz.x_mod, Fz.x_pow, Fz.x_shl, Fz.x_shr, Fz.x_andI, Fz.x_cmp, Fz.x_neg, Fz.x_addI, Fz.x_addS, Fz.x_addT, Fz.x_addL, Fz.x_addLL, Fz.x_mulAI, Fz.x_mulAC, Fz.x_mulAL, Fz.x_mulLL, Fz.x_tup, Fz.x_lst, Fz.x_abs, Fz.x_max2, Fz.x_min2, Fz.x_gcd, Fz.x_intI, Fz.x_intB, Fz.x_dm, Fz.x_lenS, Fz.x_lenT, Fz.x_lenF, Fz.x_lenL, Fz.x_ixT, Fz.x_ixF, Fz.x_ixL, Fz.x_ixS, Fz.x_slT, Fz.x_slF, Fz.x_slLs, Fz.x_slS, Fz.x_slLF, Fz.x_slLL, Fz.x_revS, Fz.x_revL, Fz.x_tupleT, Fz.x_tupleF, Fz.x_tupleL, Fz.x_listT, Fz.x_listF, Fz.x_listL, Fz.x_sumL, Fz.x_sumT, Fz.x_sumF, Fz.x_all, Fz.x_any, Fz.x_r1, Fz.x_r2, Fz.x_r3, Fz.x_lr, Fz.x_join, Fz.x_tyS, Fz.x_tyL, Fz.x_eqQ, Fz.x_eqS, Fz.x_neS, Fz.x_eqI, Fz.x_neI, Fz.x_eqB, Fz.x_neB, Fz.x_eqT, Fz.x_neT, Fz.x_eqL, Fz.x_neL, Fz.x_pyI, Fz.x_pyS, Fz.x_pyB, Fz.x_pyN, Fz.x_pyT, Fz.x_pyF, Fz.x_pyL, Fz.x_mp0, Fz.x_mpC, Fz.x_mpO, Fz.x_omap, Fz.x_repr, Fz.x_rp, Fz.x_pyfr, Fz.x_mpfr, Fz.x_mpint, Fz.x_isN, Fz.x_isI, Fz.x_isS, Fz.x_isT, Fz.x_isL, Fz.x_isB, Fz.x_isBB, Fz.x_isfr, Fz.x_inC, Fz.x_ninC, Fz.x_isi1, Fz.x_isi2, Fz.x_isi3, Fz.x_isi4, Fz.x_isi5, Fz.x_isi6, Fz.x_isi7, Fz.x_isi8, Fz.x_isi9, Fz.x_isi10, Fz.x_isi11, Fz.x_isi12, Fz.x_isi13, Fz.x_isi14, Fz.x_isi15, Fz.x_isi16, Fz.x_isi17, Fz.x_isi18, Fz.x_isi19, Fz.x_isi20, Fz.x_ttpf, Fz.x_ixfr0, Fz.x_ixfr1, Fz.x_lenfr, Fz.x_itfr, Fz.x_itT, Fz.x_itL, Fz.x_srcfr, Fz.x_eqfr, Fz.x_nefr, Fz.x_ufr, Fz.x_ll, Fz.x_calll, Fz.x_ienA, Fz.x_enA, Fz.x_enT, Fz.x_rvT, Fz.x_rvS, Fz.x_rvL, Fz.x_rvF, Fz.x_lcm, Fz.if_false', Fz.if_true', Fz.optQ_some, Fz.atI_0, Fz.atI_1, Fz.atI_n, Fz.ixN_0, Fz.ixN_1, Fz.ixN_n, List.set_cons_succ, List.set_cons_zero, List.getElem?_cons_succ, List.getElem?_cons_zero, List.length_cons, List.length_nil, List.map_cons, List.map_nil, List.replicate_succ, List.replicate_zero, List.cons_append, List.nil_append, List.append_assoc, List.append_nil, Fz.permL, List.filterMap_cons, List.filterMap_nil, List.length_set, List.set_set, Nat.reduceAdd, Nat.reduceLT, Nat.reduceLeDiff, Nat.reduceSub, Nat.reduceEqDiff, Int.reduceAdd, Int.reduceToNat, Int.reducePow, decide_eq_true_eq, if_true, if_false, ite_true, ite_false, true_and, and_true, not_false_eq_true, not_true_eq_false, false_and, and_false, Bool.false_eq_true, Bool.true_eq_false, Bool.not_true, Bool.not_false, Fz.cutD_map, Fz.ints_int, List.flatten_cons, List.flatten_nil, Nat.add_assoc, Fz.LINE, Fz.b62, and_assoc, List.all_cons, List.all_nil, Nat.le_refl, Option.map_some, List.cons_beq_cons, Nat.reduceBEq, Nat.reduceBNe, Bool.and_true, Bool.true_and, Bool.false_and, Bool.and_false, beq_self_eq_true, Bool.or_true, Bool.true_or, Bool.or_false, Bool.false_or, Fz.bls_map, List.length_append, List.length_map, List.length_take, List.length_drop, List.length_reverse, List.length_replicate, List.length_range, List.isEmpty_cons, List.isEmpty_nil, Int.reduceNeg, Int.reduceMul, Int.reduceSub, Int.reduceLT, Int.reduceLE, Int.reduceBEq, Int.reduceBNe, Int.reduceNe, Int.reduceEq, decide_true, decide_false, id, List.getElem?_nil, beq_iff_eq, bne_iff_ne, ne_eq, Bool.not_eq_true', Bool.and_eq_true, Bool.or_eq_true, beq_eq_false_iff_ne, Bool.not_eq_false', decide_eq_false_iff_not, Int.not_lt, Int.not_le, is_between_i, k_LEAST_TEETH, k_MOST_TEETH, this.1, this.2]
      exact ⟨(), trivial⟩
    · intro _ _
      simp -implicitDefEqProofs only [Fz.x_ok, Fz.x_stuck, Fz.x_exc, Fz.x_ite, Fz.x_bind, Fz.x_fl, Fz.x_fl0, Fz.x_fite, Fz.x_nx, Fz.x_rt, Fz.x_fst, Fz.x_opt, Fz.x_nil, Fz.x_seq, Fz.x_expr, Fz.x_ret, Fz.x_retN, Fz.x_brk, Fz.x_cnt, Fz.x_qstuck, Fz.x_if, Fz.x_asg, Fz.x_tg, Fz.x_tgn, Fz.x_asgO, Fz.x_co, Fz.x_par2, Fz.x_par3, Fz.x_panil, Fz.x_paE, Fz.x_paF, Fz.x_parO2, Fz.x_parO3, Fz.x_p2, Fz.x_p3, Fz.x_set, Fz.x_setQ, Fz.x_wp, Fz.x_pre, Fz.x_wipe0, Fz.x_wipeS, Fz.x_tnm, Fz.x_tsnil, Fz.x_tscons, Fz.x_ttp, Fz.x_ttl, Fz.x_ttlT, Fz.x_tsb, Fz.x_var, Fz.x_slV, Fz.x_slO, Fz.x_pk, Fz.x_pkV, Fz.x_pkO, Fz.x_c, Fz.x_1, Fz.x_2, Fz.x_2k, Fz.x_n, Fz.x_n1, Fz.x_eif, Fz.x_and, Fz.x_or, Fz.x_not, Fz.x_ch, Fz.x_sl, Fz.x_slL, Fz.x_slk, Fz.x_onone, Fz.x_osome, Fz.x_inO, Fz.x_m, Fz.x_app, Fz.x_ow, Fz.x_anil, Fz.x_acons, Fz.x_astar, Fz.x_aapp, Fz.x_tru, Fz.x_tbl, Fz.x_tnot, Fz.x_tand, Fz.x_tor, Fz.x_tyes, Fz.x_blO, Fz.x_ubl, Fz.x_uint, Fz.x_unon, Fz.x_utup, Fz.x_ulsv, Fz.x_call, Fz.x_oc, Fz.x_io, Fz.x_put, Fz.x_perm0, Fz.x_def, Fz.x_defF, Fz.x_outs0, Fz.x_outsT, Fz.x_outsF, Fz.x_for, Fz.x_iof, Fz.x_ien, Fz.x_iN, Fz.x_srcT, Fz.x_srcF, Fz.x_srcL, Fz.x_srcS, Fz.x_zip, Fz.x_zipT, Fz.x_en, Fz.x_lc, Fz.x_rest0, Fz.x_restS, Fz.x_rsV, Fz.x_rsN, Fz.x_rsO, Fz.x_some, Fz.x_map, Fz.x_obind, Fz.x_mul, Fz.x_sub, Fz.x_div, Fz.x_mod, Fz.x_pow, Fz.x_shl, Fz.x_shr, Fz.x_andI, Fz.x_cmp, Fz.x_neg, Fz.x_addI, Fz.x_addS, Fz.x_addT, Fz.x_addL, Fz.x_addLL, Fz.x_mulAI, Fz.x_mulAC, Fz.x_mulAL, Fz.x_mulLL, Fz.x_tup, Fz.x_lst, Fz.x_abs, Fz.x_max2, Fz.x_min2, Fz.x_gcd, Fz.x_intI, Fz.x_intB, Fz.x_dm, Fz.x_lenS, Fz.x_lenT, Fz.x_lenF, Fz.x_lenL, Fz.x_ixT, Fz.x_ixF, Fz.x_ixL, Fz.x_ixS, Fz.x_slT, Fz.x_slF, Fz.x_slLs, Fz.x_slS, Fz.x_slLF, Fz.x_slLL, Fz.x_revS, Fz.x_revL, Fz.x_tupleT, Fz.x_tupleF, Fz.x_tupleL, Fz.x_listT, Fz.x_listF, Fz.x_listL, Fz.x_sumL, Fz.x_sumT, Fz.x_sumF, Fz.x_all, Fz.x_any, Fz.x_r1, Fz.x_r2, Fz.x_r3, Fz.x_lr, Fz.x_join, Fz.x_tyS, Fz.x_tyL, Fz.x_eqQ, Fz.x_eqS, Fz.x_neS, Fz.x_eqI, Fz.x_neI, Fz.x_eqB, Fz.x_neB, Fz.x_eqT, Fz.x_neT, Fz.x_eqL, Fz.x_neL, Fz.x_pyI, Fz.x_pyS, Fz.x_pyB, Fz.x_pyN, Fz.x_pyT, Fz.x_pyF, Fz.x_pyL, Fz.x_mp0, Fz.x_mpC, Fz.x_mpO, Fz.x_omap, Fz.x_repr, Fz.x_rp, Fz.x_pyfr, Fz.x_mpfr, Fz.x_mpint, Fz.x_isN, Fz.x_isI, Fz.x_isS, Fz.x_isT, Fz.x_isL, Fz.x_isB, Fz.x_isBB, Fz.x_isfr, Fz.x_inC, Fz.x_ninC, Fz.x_isi1, Fz.x_isi2, Fz.x_isi3, Fz.x_isi4, Fz.x_isi5, Fz.x_isi6, Fz.x_isi7, Fz.x_isi8, Fz.x_isi9, Fz.x_isi10, Fz.x_isi11, Fz.x_isi12, Fz.x_isi13, Fz.x_isi14, Fz.x_isi15, Fz.x_isi16, Fz.x_isi17, Fz.x_isi18, Fz.x_isi19, Fz.x_isi20, Fz.x_ttpf, Fz.x_ixfr0, Fz.x_ixfr1, Fz.x_lenfr, Fz.x_itfr, Fz.x_itT, Fz.x_itL, Fz.x_srcfr, Fz.x_eqfr, Fz.x_nefr, Fz.x_ufr, Fz.x_ll, Fz.x_calll, Fz.x_ienA, Fz.x_enA, Fz.x_enT, Fz.x_rvT, Fz.x_rvS, Fz.x_rvL, Fz.x_rvF, Fz.x_lcm, Fz.if_false', Fz.if_true', Fz.optQ_some, Fz.atI_0, Fz.atI_1, Fz.atI_n, Fz.ixN_0, Fz.ixN_1, Fz.ixN_n, List.set_cons_succ, List.set_cons_zero, List.getElem?_cons_succ, List.getElem?_cons_zero, List.length_cons, List.length_nil, List.map_cons, List.map_nil, List.replicate_succ, List.replicate_zero, List.cons_append, List.nil_append, List.append_assoc, List.append_nil, Fz.permL, List.filterMap_cons, List.filterMap_nil, List.length_set, List.set_set, Nat.reduceAdd, Nat.reduceLT, Nat.reduceLeDiff, Nat.reduceSub, Nat.reduceEqDiff, Int.reduceAdd, Int.reduceToNat, Int.reducePow, decide_eq_true_eq, if_true, if_false, ite_true, ite_false, true_and, and_true, not_false_eq_true, not_true_eq_false, false_and, and_false, Bool.false_eq_true, Bool.true_eq_false, Bool.not_true, Bool.not_false, Fz.cutD_map, Fz.ints_int, List.flatten_cons, List.flatten_nil, Nat.add_assoc, Fz.LINE, Fz.b62, and_assoc, List.all_cons, List.all_nil, Nat.le_refl, Option.map_some, List.cons_beq_cons, Nat.reduceBEq, Nat.reduceBNe, Bool.and_true, Bool.true_and, Bool.false_and, Bool.and_false, beq_self_eq_true, Bool.or_true, Bool.true_or, Bool.or_false, Bool.false_or, Fz.bls_map, List.length_append, List.length_map, List.length_take, List.length_drop, List.length_reverse, List.length_replicate, List.length_range, List.isEmpty_cons, List.isEmpty_nil, Int.reduceNeg, Int.reduceMul, Int.reduceSub, Int.reduceLT, Int.reduceLE, Int.reduceBEq, Int.reduceBNe, Int.reduceNe, Int.reduceEq, decide_true, decide_false, id, List.getElem?_nil, beq_iff_eq, bne_iff_ne, ne_eq, Bool.not_eq_true', Bool.and_eq_true, Bool.or_eq_true, beq_eq_false_iff_ne, Bool.not_eq_false', decide_eq_false_iff_not, Int.not_lt, Int.not_le])
  have e : (gI (a : Int) (b : Int) == 1) = (Nat.gcd a b == 1) := by
    rw [Bool.eq_iff_iff]; unfold gI; simp; omega
  unfold G_is_hunting g_is_hunting
  simp -implicitDefEqProofs only [Fz.x_ok, Fz.x_stuck, Fz.x_exc, Fz.x_ite, Fz.x_bind, Fz.x_fl, Fz.x_fl0, Fz.x_fite, Fz.x_nx, Fz.x_rt, Fz.x_fst, Fz.x_opt, Fz.x_nil, Fz.x_seq, Fz.x_expr, Fz.x_ret, Fz.x_retN, Fz.x_brk, Fz.x_cnt, Fz.x_qstuck, Fz.x_if, Fz.x_asg, Fz.x_tg, Fz.x_tgn, Fz.x_asgO, Fz.x_co, Fz.x_par2, Fz.x_par3, Fz.x_panil, Fz.x_paE, Fz.x_paF, Fz.x_parO2, Fz.x_parO3, Fz.x_p2, Fz.x_p3, Fz.x_set, Fz.x_setQ, Fz.x_wp, Fz.x_pre, Fz.x_wipe0, Fz.x_wipeS, Fz.x_tnm, Fz.x_tsnil, Fz.x_tscons, Fz.x_ttp, Fz.x_ttl, Fz.x_ttlT, Fz.x_tsb, Fz.x_var, Fz.x_slV, Fz.x_slO, Fz.x_pk, Fz.x_pkV, Fz.x_pkO, Fz.x_c, Fz.x_1, Fz.x_2, Fz.x_2k, Fz.x_n, Fz.x_n1, Fz.x_eif, Fz.x_and, Fz.x_or, Fz.x_not, Fz.x_ch, Fz.x_sl, Fz.x_slL, Fz.x_slk, Fz.x_onone, Fz.x_osome, Fz.x_inO, Fz.x_m, Fz.x_app, Fz.x_ow, Fz.x_anil, Fz.x_acons, Fz.x_astar, Fz.x_aapp, Fz.x_tru, Fz.x_tbl, Fz.x_tnot, Fz.x_tand, Fz.x_tor, Fz.x_tyes, Fz.x_blO, Fz.x_ubl, Fz.x_uint, Fz.x_unon, Fz.x_utup, Fz.x_ulsv, Fz.x_call, Fz.x_oc, Fz.x_io, Fz.x_put, Fz.x_perm0, Fz.x_def, Fz.x_defF, Fz.x_outs0, Fz.x_outsT, Fz.x_outsF, Fz.x_for, Fz.x_iof, Fz.x_ien, Fz.x_iN, Fz.x_srcT, Fz.x_srcF, Fz.x_srcL, Fz.x_srcS, Fz.x_zip, Fz.x_zipT, Fz.x_en, Fz.x_lc, Fz.x_rest0, Fz.x_restS, Fz.x_rsV, Fz.x_rsN, Fz.x_rsO, Fz.x_some, Fz.x_map, Fz.x_obind, Fz.x_mul, Fz.x_sub, Fz.x_div, Fz.x_mod, Fz.x_pow, Fz.x_shl, Fz.x_shr, Fz.x_andI, Fz.x_cmp, Fz.x_neg, Fz.x_addI, Fz.x_addS, Fz.x_addT, Fz.x_addL, Fz.x_addLL, Fz.x_mulAI, Fz.x_mulAC, Fz.x_mulAL, Fz.x_mulLL, Fz.x_tup, Fz.x_lst, Fz.x_abs, Fz.x_max2, Fz.x_min2, Fz.x_gcd, Fz.x_intI, Fz.x_intB, Fz.x_dm, Fz.x_lenS, Fz.x_lenT, Fz.x_lenF, Fz.x_lenL, Fz.x_ixT, Fz.x_ixF, Fz.x_ixL, Fz.x_ixS, Fz.x_slT, Fz.x_slF, Fz.x_slLs, Fz.x_slS, Fz.x_slLF, Fz.x_slLL, Fz.x_revS, Fz.x_revL, Fz.x_tupleT, Fz.x_tupleF, Fz.x_tupleL, Fz.x_listT, Fz.x_listF, Fz.x_listL, Fz.x_sumL, Fz.x_sumT, Fz.x_sumF, Fz.x_all, Fz.x_any, Fz.x_r1, Fz.x_r2, Fz.x_r3, Fz.x_lr, Fz.x_join, Fz.x_tyS, Fz.x_tyL, Fz.x_eqQ, Fz.x_eqS, Fz.x_neS, Fz.x_eqI, Fz.x_neI, Fz.x_eqB, Fz.x_neB, Fz.x_eqT, Fz.x_neT, Fz.x_eqL, Fz.x_neL, Fz.x_pyI, Fz.x_pyS, Fz.x_pyB, Fz.x_pyN, Fz.x_pyT, Fz.x_pyF, Fz.x_pyL, Fz.x_mp0, Fz.x_mpC, Fz.x_mpO, Fz.x_omap, Fz.x_repr, Fz.x_rp, Fz.x_pyfr, Fz.x_mpfr, Fz.x_mpint, Fz.x_isN, Fz.x_isI, Fz.x_isS, Fz.x_isT, Fz.x_isL, Fz.x_isB, Fz.x_isBB, Fz.x_isfr, Fz.x_inC, Fz.x_ninC, Fz.x_isi1, Fz.x_isi2, Fz.x_isi3, Fz.x_isi4, Fz.x_isi5, Fz.x_isi6, Fz.x_isi7, Fz.x_isi8, Fz.x_isi9, Fz.x_isi10, Fz.x_isi11, Fz.x_isi12, Fz.x_isi13, Fz.x_isi14, Fz.x_isi15, Fz.x_isi16, Fz.x_isi17, Fz.x_isi18, Fz.x_isi19, Fz.x_isi20, Fz.x_ttpf, Fz.x_ixfr0, Fz.x_ixfr1, Fz.x_lenfr, Fz.x_itfr, Fz.x_itT, Fz.x_itL, Fz.x_srcfr, Fz.x_eqfr, Fz.x_nefr, Fz.x_ufr, Fz.x_ll, Fz.x_calll, Fz.x_ienA, Fz.x_enA, Fz.x_enT, Fz.x_rvT, Fz.x_rvS, Fz.x_rvL, Fz.x_rvF, Fz.x_lcm, Fz.if_false', Fz.if_true', Fz.optQ_some, Fz.atI_0, Fz.atI_1, Fz.atI_n, Fz.ixN_0, Fz.ixN_1, Fz.ixN_n, List.set_cons_succ, List.set_cons_zero, List.getElem?_cons_succ, List.getElem?_cons_zero, List.length_cons, List.length_nil, List.map_cons, List.map_nil, List.replicate_succ, List.replicate_zero, List.cons_append, List.nil_append, List.append_assoc, List.append_nil, Fz.permL, List.filterMap_cons, List.filterMap_nil, List.length_set, List.set_set, Nat.reduceAdd, Nat.reduceLT, Nat.reduceLeDiff, Nat.reduceSub, Nat.reduceEqDiff, Int.reduceAdd, Int.reduceToNat, Int.reducePow, decide_eq_true_eq, if_true, if_false, ite_true, ite_false, true_and, and_true, not_false_eq_true, not_true_eq_false, false_and, and_false, Bool.false_eq_true, Bool.true_eq_false, Bool.not_true, Bool.not_false, Fz.cutD_map, Fz.ints_int, List.flatten_cons, List.flatten_nil, Nat.add_assoc, Fz.LINE, Fz.b62, and_assoc, List.all_cons, List.all_nil, Nat.le_refl, Option.map_some, List.cons_beq_cons, Nat.reduceBEq, Nat.reduceBNe, Bool.and_true, Bool.true_and, Bool.false_and, Bool.and_false, beq_self_eq_true, Bool.or_true, Bool.true_or, Bool.or_false, Bool.false_or, Fz.bls_map, List.length_append, List.length_map, List.length_take, List.length_drop, List.length_reverse, List.length_replicate, List.length_range, List.isEmpty_cons, List.isEmpty_nil, Int.reduceNeg, Int.reduceMul, Int.reduceSub, Int.reduceLT, Int.reduceLE, Int.reduceBEq, Int.reduceBNe, Int.reduceNe, Int.reduceEq, decide_true, decide_false, id, List.getElem?_nil, beq_iff_eq, bne_iff_ne, ne_eq, Bool.not_eq_true', Bool.and_eq_true, Bool.or_eq_true, beq_eq_false_iff_ne, Bool.not_eq_false', decide_eq_false_iff_not, Int.not_lt, Int.not_le, c, e])
theorem lturns_eq {l : List Nat} (h : wheels l) (ne : l ≠ []) : G__law_turns_back [.vl (.tup (nI l))] = .ok (.int (lcmL l / l.head ne : Nat)) [.no] := gsat_eq (by
  have hp : ∀ c ∈ l, 0 < c ∧ c ≤ 99 := fun c hc => by have := h.1 c hc; omega
  have hh := h.1 _ (List.head_mem ne)
  unfold G__law_turns_back g__law_turns_back
  simp -implicitDefEqProofs only [Fz.x_ok, Fz.x_stuck, Fz.x_exc, Fz.x_ite, Fz.x_bind, Fz.x_fl, Fz.x_fl0, Fz.x_fite, Fz.x_nx, Fz.x_rt, Fz.x_fst, Fz.x_opt, Fz.x_nil, Fz.x_seq, Fz.x_expr, Fz.x_ret, Fz.x_retN, Fz.x_brk, Fz.x_cnt, Fz.x_qstuck, Fz.x_if, Fz.x_asg, Fz.x_tg, Fz.x_tgn, Fz.x_asgO, Fz.x_co, Fz.x_par2, Fz.x_par3, Fz.x_panil, Fz.x_paE, Fz.x_paF, Fz.x_parO2, Fz.x_parO3, Fz.x_p2, Fz.x_p3, Fz.x_set, Fz.x_setQ, Fz.x_wp, Fz.x_pre, Fz.x_wipe0, Fz.x_wipeS, Fz.x_tnm, Fz.x_tsnil, Fz.x_tscons, Fz.x_ttp, Fz.x_ttl, Fz.x_ttlT, Fz.x_tsb, Fz.x_var, Fz.x_slV, Fz.x_slO, Fz.x_pk, Fz.x_pkV, Fz.x_pkO, Fz.x_c, Fz.x_1, Fz.x_2, Fz.x_2k, Fz.x_n, Fz.x_n1, Fz.x_eif, Fz.x_and, Fz.x_or, Fz.x_not, Fz.x_ch, Fz.x_sl, Fz.x_slL, Fz.x_slk, Fz.x_onone, Fz.x_osome, Fz.x_inO, Fz.x_m, Fz.x_app, Fz.x_ow, Fz.x_anil, Fz.x_acons, Fz.x_astar, Fz.x_aapp, Fz.x_tru, Fz.x_tbl, Fz.x_tnot, Fz.x_tand, Fz.x_tor, Fz.x_tyes, Fz.x_blO, Fz.x_ubl, Fz.x_uint, Fz.x_unon, Fz.x_utup, Fz.x_ulsv, Fz.x_call, Fz.x_oc, Fz.x_io, Fz.x_put, Fz.x_perm0, Fz.x_def, Fz.x_defF, Fz.x_outs0, Fz.x_outsT, Fz.x_outsF, Fz.x_for, Fz.x_iof, Fz.x_ien, Fz.x_iN, Fz.x_srcT, Fz.x_srcF, Fz.x_srcL, Fz.x_srcS, Fz.x_zip, Fz.x_zipT, Fz.x_en, Fz.x_lc, Fz.x_rest0, Fz.x_restS, Fz.x_rsV, Fz.x_rsN, Fz.x_rsO, Fz.x_some, Fz.x_map, Fz.x_obind, Fz.x_mul, Fz.x_sub, Fz.x_div, Fz.x_mod, Fz.x_pow, Fz.x_shl, Fz.x_shr, Fz.x_andI, Fz.x_cmp, Fz.x_neg, Fz.x_addI, Fz.x_addS, Fz.x_addT, Fz.x_addL, Fz.x_addLL, Fz.x_mulAI, Fz.x_mulAC, Fz.x_mulAL, Fz.x_mulLL, Fz.x_tup, Fz.x_lst, Fz.x_abs, Fz.x_max2, Fz.x_min2, Fz.x_gcd, Fz.x_intI, Fz.x_intB, Fz.x_dm, Fz.x_lenS, Fz.x_lenT, Fz.x_lenF, Fz.x_lenL, Fz.x_ixT, Fz.x_ixF, Fz.x_ixL, Fz.x_ixS, Fz.x_slT, Fz.x_slF, Fz.x_slLs, Fz.x_slS, Fz.x_slLF, Fz.x_slLL, Fz.x_revS, Fz.x_revL, Fz.x_tupleT, Fz.x_tupleF, Fz.x_tupleL, Fz.x_listT, Fz.x_listF, Fz.x_listL, Fz.x_sumL, Fz.x_sumT, Fz.x_sumF, Fz.x_all, Fz.x_any, Fz.x_r1, Fz.x_r2, Fz.x_r3, Fz.x_lr, Fz.x_join, Fz.x_tyS, Fz.x_tyL, Fz.x_eqQ, Fz.x_eqS, Fz.x_neS, Fz.x_eqI, Fz.x_neI, Fz.x_eqB, Fz.x_neB, Fz.x_eqT, Fz.x_neT, Fz.x_eqL, Fz.x_neL, Fz.x_pyI, Fz.x_pyS, Fz.x_pyB, Fz.x_pyN, Fz.x_pyT, Fz.x_pyF, Fz.x_pyL, Fz.x_mp0, Fz.x_mpC, Fz.x_mpO, Fz.x_omap, Fz.x_repr, Fz.x_rp, Fz.x_pyfr, Fz.x_mpfr, Fz.x_mpint, Fz.x_isN, Fz.x_isI, Fz.x_isS, Fz.x_isT, Fz.x_isL, Fz.x_isB, Fz.x_isBB, Fz.x_isfr, Fz.x_inC, Fz.x_ninC, Fz.x_isi1, Fz.x_isi2, Fz.x_isi3, Fz.x_isi4, Fz.x_isi5, Fz.x_isi6, Fz.x_isi7, Fz.x_isi8, Fz.x_isi9, Fz.x_isi10, Fz.x_isi11, Fz.x_isi12, Fz.x_isi13, Fz.x_isi14, Fz.x_isi15, Fz.x_isi16, Fz.x_isi17, Fz.x_isi18, Fz.x_isi19, Fz.x_isi20, Fz.x_ttpf, Fz.x_ixfr0, Fz.x_ixfr1, Fz.x_lenfr, Fz.x_itfr, Fz.x_itT, Fz.x_itL, Fz.x_srcfr, Fz.x_eqfr, Fz.x_nefr, Fz.x_ufr, Fz.x_ll, Fz.x_calll, Fz.x_ienA, Fz.x_enA, Fz.x_enT, Fz.x_rvT, Fz.x_rvS, Fz.x_rvL, Fz.x_rvF, Fz.x_lcm, Fz.if_false', Fz.if_true', Fz.optQ_some, Fz.atI_0, Fz.atI_1, Fz.atI_n, Fz.ixN_0, Fz.ixN_1, Fz.ixN_n, List.set_cons_succ, List.set_cons_zero, List.getElem?_cons_succ, List.getElem?_cons_zero, List.length_cons, List.length_nil, List.map_cons, List.map_nil, List.replicate_succ, List.replicate_zero, List.cons_append, List.nil_append, List.append_assoc, List.append_nil, Fz.permL, List.filterMap_cons, List.filterMap_nil, List.length_set, List.set_set, Nat.reduceAdd, Nat.reduceLT, Nat.reduceLeDiff, Nat.reduceSub, Nat.reduceEqDiff, Int.reduceAdd, Int.reduceToNat, Int.reducePow, decide_eq_true_eq, if_true, if_false, ite_true, ite_false, true_and, and_true, not_false_eq_true, not_true_eq_false, false_and, and_false, Bool.false_eq_true, Bool.true_eq_false, Bool.not_true, Bool.not_false, Fz.cutD_map, Fz.ints_int, List.flatten_cons, List.flatten_nil, Nat.add_assoc, Fz.LINE, Fz.b62, and_assoc, List.all_cons, List.all_nil, Nat.le_refl, Option.map_some, List.cons_beq_cons, Nat.reduceBEq, Nat.reduceBNe, Bool.and_true, Bool.true_and, Bool.false_and, Bool.and_false, beq_self_eq_true, Bool.or_true, Bool.true_or, Bool.or_false, Bool.false_or, Fz.bls_map, List.length_append, List.length_map, List.length_take, List.length_drop, List.length_reverse, List.length_replicate, List.length_range, List.isEmpty_cons, List.isEmpty_nil, Int.reduceNeg, Int.reduceMul, Int.reduceSub, Int.reduceLT, Int.reduceLE, Int.reduceBEq, Int.reduceBNe, Int.reduceNe, Int.reduceEq, decide_true, decide_false, id, List.getElem?_nil, beq_iff_eq, bne_iff_ne, ne_eq, Bool.not_eq_true', Bool.and_eq_true, Bool.or_eq_true, beq_eq_false_iff_ne, Bool.not_eq_false', decide_eq_false_iff_not, Int.not_lt, Int.not_le]
  unfold nI
  refine gforX (fun s : Nat => [.vl (.tup (nI l)), .vl (.int s), .no]) (fun i s => s = lcmL (l.take i)) 1 rfl (by simp [lcmL]) ?_ ?_
  · rintro i c s hc hs
    obtain ⟨hi, hc⟩ := List.getElem?_eq_some_iff.mp hc
    have b1 := lcmL_64 (take_all hp i) (by have := h.2.2; simp; omega)
    have b2 := hp c (by rw [← hc]; exact List.getElem_mem hi)
    rw [← hs] at b1
    have cm := common_eq (a := (s : Int)) (b := (c : Int)) (by show _ < _; omega)
    have gp : (0 : Int) < gI (s : Int) (c : Int) := gI_pos (by omega)
    have gl : gI (s : Int) (c : Int) = (Nat.gcd s c : Nat) := rfl
    have ge : Nat.gcd s c ≤ c := Nat.gcd_le_right _ (by omega)
    have e : (s : Int) * c / gI (s : Int) (c : Int) = ((Nat.lcm s c : Nat) : Int) := by rw [gl]; unfold Nat.lcm; push_cast; rfl
    simp -implicitDefEqProofs only [Fz.x_ok, Fz.x_stuck, Fz.x_exc, Fz.x_ite, Fz.x_bind, Fz.x_fl, Fz.x_fl0, Fz.x_fite, Fz.x_nx, Fz.x_rt, Fz.x_fst, Fz.x_opt, Fz.x_nil, Fz.x_seq, Fz.x_expr, Fz.x_ret, Fz.x_retN, Fz.x_brk, Fz.x_cnt, Fz.x_qstuck, Fz.x_if, Fz.x_asg, Fz.x_tg, Fz.x_tgn, Fz.x_asgO, Fz.x_co, Fz.x_par2, Fz.x_par3, Fz.x_panil, Fz.x_paE, Fz.x_paF, Fz.x_parO2, Fz.x_parO3, Fz.x_p2, Fz.x_p3, Fz.x_set, Fz.x_setQ, Fz.x_wp, Fz.x_pre, Fz.x_wipe0, Fz.x_wipeS, Fz.x_tnm, Fz.x_tsnil, Fz.x_tscons, Fz.x_ttp, Fz.x_ttl, Fz.x_ttlT, Fz.x_tsb, Fz.x_var, Fz.x_slV, Fz.x_slO, Fz.x_pk, Fz.x_pkV, Fz.x_pkO, Fz.x_c, Fz.x_1, Fz.x_2, Fz.x_2k, Fz.x_n, Fz.x_n1, Fz.x_eif, Fz.x_and, Fz.x_or, Fz.x_not, Fz.x_ch, Fz.x_sl, Fz.x_slL, Fz.x_slk, Fz.x_onone, Fz.x_osome, Fz.x_inO, Fz.x_m, Fz.x_app, Fz.x_ow, Fz.x_anil, Fz.x_acons, Fz.x_astar, Fz.x_aapp, Fz.x_tru, Fz.x_tbl, Fz.x_tnot, Fz.x_tand, Fz.x_tor, Fz.x_tyes, Fz.x_blO, Fz.x_ubl, Fz.x_uint, Fz.x_unon, Fz.x_utup, Fz.x_ulsv, Fz.x_call, Fz.x_oc, Fz.x_io, Fz.x_put, Fz.x_perm0, Fz.x_def, Fz.x_defF, Fz.x_outs0, Fz.x_outsT, Fz.x_outsF, Fz.x_for, Fz.x_iof, Fz.x_ien, Fz.x_iN, Fz.x_srcT, Fz.x_srcF, Fz.x_srcL, Fz.x_srcS, Fz.x_zip, Fz.x_zipT, Fz.x_en, Fz.x_lc, Fz.x_rest0, Fz.x_restS, Fz.x_rsV, Fz.x_rsN, Fz.x_rsO, Fz.x_some, Fz.x_map, Fz.x_obind, Fz.x_mul, Fz.x_sub, Fz.x_div, Fz.x_mod, Fz.x_pow, Fz.x_shl, Fz.x_shr, Fz.x_andI, Fz.x_cmp, Fz.x_neg, Fz.x_addI, Fz.x_addS, Fz.x_addT, Fz.x_addL, Fz.x_addLL, Fz.x_mulAI, Fz.x_mulAC, Fz.x_mulAL, Fz.x_mulLL, Fz.x_tup, Fz.x_lst, Fz.x_abs, Fz.x_max2, Fz.x_min2, Fz.x_gcd, Fz.x_intI, Fz.x_intB, Fz.x_dm, Fz.x_lenS, Fz.x_lenT, Fz.x_lenF, Fz.x_lenL, Fz.x_ixT, Fz.x_ixF, Fz.x_ixL, Fz.x_ixS, Fz.x_slT, Fz.x_slF, Fz.x_slLs, Fz.x_slS, Fz.x_slLF, Fz.x_slLL, Fz.x_revS, Fz.x_revL, Fz.x_tupleT, Fz.x_tupleF, Fz.x_tupleL, Fz.x_listT, Fz.x_listF, Fz.x_listL, Fz.x_sumL, Fz.x_sumT, Fz.x_sumF, Fz.x_all, Fz.x_any, Fz.x_r1, Fz.x_r2, Fz.x_r3, Fz.x_lr, Fz.x_join, Fz.x_tyS, Fz.x_tyL, Fz.x_eqQ, Fz.x_eqS, Fz.x_neS, Fz.x_eqI, Fz.x_neI, Fz.x_eqB, Fz.x_neB, Fz.x_eqT, Fz.x_neT, Fz.x_eqL, Fz.x_neL, Fz.x_pyI, Fz.x_pyS, Fz.x_pyB, Fz.x_pyN, Fz.x_pyT, Fz.x_pyF, Fz.x_pyL, Fz.x_mp0, Fz.x_mpC, Fz.x_mpO, Fz.x_omap, Fz.x_repr, Fz.x_rp, Fz.x_pyfr, Fz.x_mpfr, Fz.x_mpint, Fz.x_isN, Fz.x_isI, Fz.x_isS, Fz.x_isT, Fz.x_isL, Fz.x_isB, Fz.x_isBB, Fz.x_isfr, Fz.x_inC, Fz.x_ninC, Fz.x_isi1, Fz.x_isi2, Fz.x_isi3, Fz.x_isi4, Fz.x_isi5, Fz.x_isi6, Fz.x_isi7, Fz.x_isi8, Fz.x_isi9, Fz.x_isi10, Fz.x_isi11, Fz.x_isi12, Fz.x_isi13, Fz.x_isi14, Fz.x_isi15, Fz.x_isi16, Fz.x_isi17, Fz.x_isi18, Fz.x_isi19, Fz.x_isi20, Fz.x_ttpf, Fz.x_ixfr0, Fz.x_ixfr1, Fz.x_lenfr, Fz.x_itfr, Fz.x_itT, Fz.x_itL, Fz.x_srcfr, Fz.x_eqfr, Fz.x_nefr, Fz.x_ufr, Fz.x_ll, Fz.x_calll, Fz.x_ienA, Fz.x_enA, Fz.x_enT, Fz.x_rvT, Fz.x_rvS, Fz.x_rvL, Fz.x_rvF, Fz.x_lcm, Fz.if_false', Fz.if_true', Fz.optQ_some, Fz.atI_0, Fz.atI_1, Fz.atI_n, Fz.ixN_0, Fz.ixN_1, Fz.ixN_n, List.set_cons_succ, List.set_cons_zero, List.getElem?_cons_succ, List.getElem?_cons_zero, List.length_cons, List.length_nil, List.map_cons, List.map_nil, List.replicate_succ, List.replicate_zero, List.cons_append, List.nil_append, List.append_assoc, List.append_nil, Fz.permL, List.filterMap_cons, List.filterMap_nil, List.length_set, List.set_set, Nat.reduceAdd, Nat.reduceLT, Nat.reduceLeDiff, Nat.reduceSub, Nat.reduceEqDiff, Int.reduceAdd, Int.reduceToNat, Int.reducePow, decide_eq_true_eq, if_true, if_false, ite_true, ite_false, true_and, and_true, not_false_eq_true, not_true_eq_false, false_and, and_false, Bool.false_eq_true, Bool.true_eq_false, Bool.not_true, Bool.not_false, Fz.cutD_map, Fz.ints_int, List.flatten_cons, List.flatten_nil, Nat.add_assoc, Fz.LINE, Fz.b62, and_assoc, List.all_cons, List.all_nil, Nat.le_refl, Option.map_some, List.cons_beq_cons, Nat.reduceBEq, Nat.reduceBNe, Bool.and_true, Bool.true_and, Bool.false_and, Bool.and_false, beq_self_eq_true, Bool.or_true, Bool.true_or, Bool.or_false, Bool.false_or, Fz.bls_map, List.length_append, List.length_map, List.length_take, List.length_drop, List.length_reverse, List.length_replicate, List.length_range, List.isEmpty_cons, List.isEmpty_nil, Int.reduceNeg, Int.reduceMul, Int.reduceSub, Int.reduceLT, Int.reduceLE, Int.reduceBEq, Int.reduceBNe, Int.reduceNe, Int.reduceEq, decide_true, decide_false, id, List.getElem?_nil, beq_iff_eq, bne_iff_ne, ne_eq, Bool.not_eq_true', Bool.and_eq_true, Bool.or_eq_true, beq_eq_false_iff_ne, Bool.not_eq_false', decide_eq_false_iff_not, Int.not_lt, Int.not_le, cm, e]
    refine ⟨.inr (.inl ⟨by omega, by omega⟩), dv_s gp (by omega), _, rfl, ?_⟩
    rw [lcmL_take hi, ← hs, hc]
  · intro s hs
    rw [List.take_length] at hs
    simp -implicitDefEqProofs only [Fz.x_ok, Fz.x_stuck, Fz.x_exc, Fz.x_ite, Fz.x_bind, Fz.x_fl, Fz.x_fl0, Fz.x_fite, Fz.x_nx, Fz.x_rt, Fz.x_fst, Fz.x_opt, Fz.x_nil, Fz.x_seq, Fz.x_expr, Fz.x_ret, Fz.x_retN, Fz.x_brk, Fz.x_cnt, Fz.x_qstuck, Fz.x_if, Fz.x_asg, Fz.x_tg, Fz.x_tgn, Fz.x_asgO, Fz.x_co, Fz.x_par2, Fz.x_par3, Fz.x_panil, Fz.x_paE, Fz.x_paF, Fz.x_parO2, Fz.x_parO3, Fz.x_p2, Fz.x_p3, Fz.x_set, Fz.x_setQ, Fz.x_wp, Fz.x_pre, Fz.x_wipe0, Fz.x_wipeS, Fz.x_tnm, Fz.x_tsnil, Fz.x_tscons, Fz.x_ttp, Fz.x_ttl, Fz.x_ttlT, Fz.x_tsb, Fz.x_var, Fz.x_slV, Fz.x_slO, Fz.x_pk, Fz.x_pkV, Fz.x_pkO, Fz.x_c, Fz.x_1, Fz.x_2, Fz.x_2k, Fz.x_n, Fz.x_n1, Fz.x_eif, Fz.x_and, Fz.x_or, Fz.x_not, Fz.x_ch, Fz.x_sl, Fz.x_slL, Fz.x_slk, Fz.x_onone, Fz.x_osome, Fz.x_inO, Fz.x_m, Fz.x_app, Fz.x_ow, Fz.x_anil, Fz.x_acons, Fz.x_astar, Fz.x_aapp, Fz.x_tru, Fz.x_tbl, Fz.x_tnot, Fz.x_tand, Fz.x_tor, Fz.x_tyes, Fz.x_blO, Fz.x_ubl, Fz.x_uint, Fz.x_unon, Fz.x_utup, Fz.x_ulsv, Fz.x_call, Fz.x_oc, Fz.x_io, Fz.x_put, Fz.x_perm0, Fz.x_def, Fz.x_defF, Fz.x_outs0, Fz.x_outsT, Fz.x_outsF, Fz.x_for, Fz.x_iof, Fz.x_ien, Fz.x_iN, Fz.x_srcT, Fz.x_srcF, Fz.x_srcL, Fz.x_srcS, Fz.x_zip, Fz.x_zipT, Fz.x_en, Fz.x_lc, Fz.x_rest0, Fz.x_restS, Fz.x_rsV, Fz.x_rsN, Fz.x_rsO, Fz.x_some, Fz.x_map, Fz.x_obind, Fz.x_mul, Fz.x_sub, Fz.x_div, Fz.x_mod, Fz.x_pow, Fz.x_shl, Fz.x_shr, Fz.x_andI, Fz.x_cmp, Fz.x_neg, Fz.x_addI, Fz.x_addS, Fz.x_addT, Fz.x_addL, Fz.x_addLL, Fz.x_mulAI, Fz.x_mulAC, Fz.x_mulAL, Fz.x_mulLL, Fz.x_tup, Fz.x_lst, Fz.x_abs, Fz.x_max2, Fz.x_min2, Fz.x_gcd, Fz.x_intI, Fz.x_intB, Fz.x_dm, Fz.x_lenS, Fz.x_lenT, Fz.x_lenF, Fz.x_lenL, Fz.x_ixT, Fz.x_ixF, Fz.x_ixL, Fz.x_ixS, Fz.x_slT, Fz.x_slF, Fz.x_slLs, Fz.x_slS, Fz.x_slLF, Fz.x_slLL, Fz.x_revS, Fz.x_revL, Fz.x_tupleT, Fz.x_tupleF, Fz.x_tupleL, Fz.x_listT, Fz.x_listF, Fz.x_listL, Fz.x_sumL, Fz.x_sumT, Fz.x_sumF, Fz.x_all, Fz.x_any, Fz.x_r1, Fz.x_r2, Fz.x_r3, Fz.x_lr, Fz.x_join, Fz.x_tyS, Fz.x_tyL, Fz.x_eqQ, Fz.x_eqS, Fz.x_neS, Fz.x_eqI, Fz.x_neI, Fz.x_eqB, Fz.x_neB, Fz.x_eqT, Fz.x_neT, Fz.x_eqL, Fz.x_neL, Fz.x_pyI, Fz.x_pyS, Fz.x_pyB, Fz.x_pyN, Fz.x_pyT, Fz.x_pyF, Fz.x_pyL, Fz.x_mp0, Fz.x_mpC, Fz.x_mpO, Fz.x_omap, Fz.x_repr, Fz.x_rp, Fz.x_pyfr, Fz.x_mpfr, Fz.x_mpint, Fz.x_isN, Fz.x_isI, Fz.x_isS, Fz.x_isT, Fz.x_isL, Fz.x_isB, Fz.x_isBB, Fz.x_isfr, Fz.x_inC, Fz.x_ninC, Fz.x_isi1, Fz.x_isi2, Fz.x_isi3, Fz.x_isi4, Fz.x_isi5, Fz.x_isi6, Fz.x_isi7, Fz.x_isi8, Fz.x_isi9, Fz.x_isi10, Fz.x_isi11, Fz.x_isi12, Fz.x_isi13, Fz.x_isi14, Fz.x_isi15, Fz.x_isi16, Fz.x_isi17, Fz.x_isi18, Fz.x_isi19, Fz.x_isi20, Fz.x_ttpf, Fz.x_ixfr0, Fz.x_ixfr1, Fz.x_lenfr, Fz.x_itfr, Fz.x_itT, Fz.x_itL, Fz.x_srcfr, Fz.x_eqfr, Fz.x_nefr, Fz.x_ufr, Fz.x_ll, Fz.x_calll, Fz.x_ienA, Fz.x_enA, Fz.x_enT, Fz.x_rvT, Fz.x_rvS, Fz.x_rvL, Fz.x_rvF, Fz.x_lcm, Fz.if_false', Fz.if_true', Fz.optQ_some, Fz.atI_0, Fz.atI_1, Fz.atI_n, Fz.ixN_0, Fz.ixN_1, Fz.ixN_n, List.set_cons_succ, List.set_cons_zero, List.getElem?_cons_succ, List.getElem?_cons_zero, List.length_cons, List.length_nil, List.map_cons, List.map_nil, List.replicate_succ, List.replicate_zero, List.cons_append, List.nil_append, List.append_assoc, List.append_nil, Fz.permL, List.filterMap_cons, List.filterMap_nil, List.length_set, List.set_set, Nat.reduceAdd, Nat.reduceLT, Nat.reduceLeDiff, Nat.reduceSub, Nat.reduceEqDiff, Int.reduceAdd, Int.reduceToNat, Int.reducePow, decide_eq_true_eq, if_true, if_false, ite_true, ite_false, true_and, and_true, not_false_eq_true, not_true_eq_false, false_and, and_false, Bool.false_eq_true, Bool.true_eq_false, Bool.not_true, Bool.not_false, Fz.cutD_map, Fz.ints_int, List.flatten_cons, List.flatten_nil, Nat.add_assoc, Fz.LINE, Fz.b62, and_assoc, List.all_cons, List.all_nil, Nat.le_refl, Option.map_some, List.cons_beq_cons, Nat.reduceBEq, Nat.reduceBNe, Bool.and_true, Bool.true_and, Bool.false_and, Bool.and_false, beq_self_eq_true, Bool.or_true, Bool.true_or, Bool.or_false, Bool.false_or, Fz.bls_map, List.length_append, List.length_map, List.length_take, List.length_drop, List.length_reverse, List.length_replicate, List.length_range, List.isEmpty_cons, List.isEmpty_nil, Int.reduceNeg, Int.reduceMul, Int.reduceSub, Int.reduceLT, Int.reduceLE, Int.reduceBEq, Int.reduceBNe, Int.reduceNe, Int.reduceEq, decide_true, decide_false, id, List.getElem?_nil, beq_iff_eq, bne_iff_ne, ne_eq, Bool.not_eq_true', Bool.and_eq_true, Bool.or_eq_true, beq_eq_false_iff_ne, Bool.not_eq_false', decide_eq_false_iff_not, Int.not_lt, Int.not_le, nI_0 ne, hs]
    exact ⟨dv_s (by omega) (by omega), rfl⟩)
theorem right_spec {a b c : Int} : (G__law_right [Pl a b c]).sat (fun d o => ∃ a b c, d = .bl true ∧ o = [Pl a b c]) noX := by
  unfold G__law_right g__law_right
  simp -implicitDefEqProofs only [Fz.x_ok, Fz.x_stuck, Fz.x_exc, Fz.x_ite, Fz.x_bind, Fz.x_fl, Fz.x_fl0, Fz.x_fite, Fz.x_nx, Fz.x_rt, Fz.x_fst, Fz.x_opt, Fz.x_nil, Fz.x_seq, Fz.x_expr, Fz.x_ret, Fz.x_retN, Fz.x_brk, Fz.x_cnt, Fz.x_qstuck, Fz.x_if, Fz.x_asg, Fz.x_tg, Fz.x_tgn, Fz.x_asgO, Fz.x_co, Fz.x_par2, Fz.x_par3, Fz.x_panil, Fz.x_paE, Fz.x_paF, Fz.x_parO2, Fz.x_parO3, Fz.x_p2, Fz.x_p3, Fz.x_set, Fz.x_setQ, Fz.x_wp, Fz.x_pre, Fz.x_wipe0, Fz.x_wipeS, Fz.x_tnm, Fz.x_tsnil, Fz.x_tscons, Fz.x_ttp, Fz.x_ttl, Fz.x_ttlT, Fz.x_tsb, Fz.x_var, Fz.x_slV, Fz.x_slO, Fz.x_pk, Fz.x_pkV, Fz.x_pkO, Fz.x_c, Fz.x_1, Fz.x_2, Fz.x_2k, Fz.x_n, Fz.x_n1, Fz.x_eif, Fz.x_and, Fz.x_or, Fz.x_not, Fz.x_ch, Fz.x_sl, Fz.x_slL, Fz.x_slk, Fz.x_onone, Fz.x_osome, Fz.x_inO, Fz.x_m, Fz.x_app, Fz.x_ow, Fz.x_anil, Fz.x_acons, Fz.x_astar, Fz.x_aapp, Fz.x_tru, Fz.x_tbl, Fz.x_tnot, Fz.x_tand, Fz.x_tor, Fz.x_tyes, Fz.x_blO, Fz.x_ubl, Fz.x_uint, Fz.x_unon, Fz.x_utup, Fz.x_ulsv, Fz.x_call, Fz.x_oc, Fz.x_io, Fz.x_put, Fz.x_perm0, Fz.x_def, Fz.x_defF, Fz.x_outs0, Fz.x_outsT, Fz.x_outsF, Fz.x_for, Fz.x_iof, Fz.x_ien, Fz.x_iN, Fz.x_srcT, Fz.x_srcF, Fz.x_srcL, Fz.x_srcS, Fz.x_zip, Fz.x_zipT, Fz.x_en, Fz.x_lc, Fz.x_rest0, Fz.x_restS, Fz.x_rsV, Fz.x_rsN, Fz.x_rsO, Fz.x_some, Fz.x_map, Fz.x_obind, Fz.x_mul, Fz.x_sub, Fz.x_div, Fz.x_mod, Fz.x_pow, Fz.x_shl, Fz.x_shr, Fz.x_andI, Fz.x_cmp, Fz.x_neg, Fz.x_addI, Fz.x_addS, Fz.x_addT, Fz.x_addL, Fz.x_addLL, Fz.x_mulAI, Fz.x_mulAC, Fz.x_mulAL, Fz.x_mulLL, Fz.x_tup, Fz.x_lst, Fz.x_abs, Fz.x_max2, Fz.x_min2, Fz.x_gcd, Fz.x_intI, Fz.x_intB, Fz.x_dm, Fz.x_lenS, Fz.x_lenT, Fz.x_lenF, Fz.x_lenL, Fz.x_ixT, Fz.x_ixF, Fz.x_ixL, Fz.x_ixS, Fz.x_slT, Fz.x_slF, Fz.x_slLs, Fz.x_slS, Fz.x_slLF, Fz.x_slLL, Fz.x_revS, Fz.x_revL, Fz.x_tupleT, Fz.x_tupleF, Fz.x_tupleL, Fz.x_listT, Fz.x_listF, Fz.x_listL, Fz.x_sumL, Fz.x_sumT, Fz.x_sumF, Fz.x_all, Fz.x_any, Fz.x_r1, Fz.x_r2, Fz.x_r3, Fz.x_lr, Fz.x_join, Fz.x_tyS, Fz.x_tyL, Fz.x_eqQ, Fz.x_eqS, Fz.x_neS, Fz.x_eqI, Fz.x_neI, Fz.x_eqB, Fz.x_neB, Fz.x_eqT, Fz.x_neT, Fz.x_eqL, Fz.x_neL, Fz.x_pyI, Fz.x_pyS, Fz.x_pyB, Fz.x_pyN, Fz.x_pyT, Fz.x_pyF, Fz.x_pyL, Fz.x_mp0, Fz.x_mpC, Fz.x_mpO, Fz.x_omap, Fz.x_repr, Fz.x_rp, Fz.x_pyfr, Fz.x_mpfr, Fz.x_mpint, Fz.x_isN, Fz.x_isI, Fz.x_isS, Fz.x_isT, Fz.x_isL, Fz.x_isB, Fz.x_isBB, Fz.x_isfr, Fz.x_inC, Fz.x_ninC, Fz.x_isi1, Fz.x_isi2, Fz.x_isi3, Fz.x_isi4, Fz.x_isi5, Fz.x_isi6, Fz.x_isi7, Fz.x_isi8, Fz.x_isi9, Fz.x_isi10, Fz.x_isi11, Fz.x_isi12, Fz.x_isi13, Fz.x_isi14, Fz.x_isi15, Fz.x_isi16, Fz.x_isi17, Fz.x_isi18, Fz.x_isi19, Fz.x_isi20, Fz.x_ttpf, Fz.x_ixfr0, Fz.x_ixfr1, Fz.x_lenfr, Fz.x_itfr, Fz.x_itT, Fz.x_itL, Fz.x_srcfr, Fz.x_eqfr, Fz.x_nefr, Fz.x_ufr, Fz.x_ll, Fz.x_calll, Fz.x_ienA, Fz.x_enA, Fz.x_enT, Fz.x_rvT, Fz.x_rvS, Fz.x_rvL, Fz.x_rvF, Fz.x_lcm, Fz.if_false', Fz.if_true', Fz.optQ_some, Fz.atI_0, Fz.atI_1, Fz.atI_n, Fz.ixN_0, Fz.ixN_1, Fz.ixN_n, List.set_cons_succ, List.set_cons_zero, List.getElem?_cons_succ, List.getElem?_cons_zero, List.length_cons, List.length_nil, List.map_cons, List.map_nil, List.replicate_succ, List.replicate_zero, List.cons_append, List.nil_append, List.append_assoc, List.append_nil, Fz.permL, List.filterMap_cons, List.filterMap_nil, List.length_set, List.set_set, Nat.reduceAdd, Nat.reduceLT, Nat.reduceLeDiff, Nat.reduceSub, Nat.reduceEqDiff, Int.reduceAdd, Int.reduceToNat, Int.reducePow, decide_eq_true_eq, if_true, if_false, ite_true, ite_false, true_and, and_true, not_false_eq_true, not_true_eq_false, false_and, and_false, Bool.false_eq_true, Bool.true_eq_false, Bool.not_true, Bool.not_false, Fz.cutD_map, Fz.ints_int, List.flatten_cons, List.flatten_nil, Nat.add_assoc, Fz.LINE, Fz.b62, and_assoc, List.all_cons, List.all_nil, Nat.le_refl, Option.map_some, List.cons_beq_cons, Nat.reduceBEq, Nat.reduceBNe, Bool.and_true, Bool.true_and, Bool.false_and, Bool.and_false, beq_self_eq_true, Bool.or_true, Bool.true_or, Bool.or_false, Bool.false_or, Fz.bls_map, List.length_append, List.length_map, List.length_take, List.length_drop, List.length_reverse, List.length_replicate, List.length_range, List.isEmpty_cons, List.isEmpty_nil, Int.reduceNeg, Int.reduceMul, Int.reduceSub, Int.reduceLT, Int.reduceLE, Int.reduceBEq, Int.reduceBNe, Int.reduceNe, Int.reduceEq, decide_true, decide_false, id, List.getElem?_nil, beq_iff_eq, bne_iff_ne, ne_eq, Bool.not_eq_true', Bool.and_eq_true, Bool.or_eq_true, beq_eq_false_iff_ne, Bool.not_eq_false', decide_eq_false_iff_not, Int.not_lt, Int.not_le]
  refine gsat_mono (take_spec (by decide) (by decide)) ?_
  rintro _ _ ⟨t, a, b, c, rfl, t0, t1, rfl⟩
  simp -implicitDefEqProofs only [Fz.x_ok, Fz.x_stuck, Fz.x_exc, Fz.x_ite, Fz.x_bind, Fz.x_fl, Fz.x_fl0, Fz.x_fite, Fz.x_nx, Fz.x_rt, Fz.x_fst, Fz.x_opt, Fz.x_nil, Fz.x_seq, Fz.x_expr, Fz.x_ret, Fz.x_retN, Fz.x_brk, Fz.x_cnt, Fz.x_qstuck, Fz.x_if, Fz.x_asg, Fz.x_tg, Fz.x_tgn, Fz.x_asgO, Fz.x_co, Fz.x_par2, Fz.x_par3, Fz.x_panil, Fz.x_paE, Fz.x_paF, Fz.x_parO2, Fz.x_parO3, Fz.x_p2, Fz.x_p3, Fz.x_set, Fz.x_setQ, Fz.x_wp, Fz.x_pre, Fz.x_wipe0, Fz.x_wipeS, Fz.x_tnm, Fz.x_tsnil, Fz.x_tscons, Fz.x_ttp, Fz.x_ttl, Fz.x_ttlT, Fz.x_tsb, Fz.x_var, Fz.x_slV, Fz.x_slO, Fz.x_pk, Fz.x_pkV, Fz.x_pkO, Fz.x_c, Fz.x_1, Fz.x_2, Fz.x_2k, Fz.x_n, Fz.x_n1, Fz.x_eif, Fz.x_and, Fz.x_or, Fz.x_not, Fz.x_ch, Fz.x_sl, Fz.x_slL, Fz.x_slk, Fz.x_onone, Fz.x_osome, Fz.x_inO, Fz.x_m, Fz.x_app, Fz.x_ow, Fz.x_anil, Fz.x_acons, Fz.x_astar, Fz.x_aapp, Fz.x_tru, Fz.x_tbl, Fz.x_tnot, Fz.x_tand, Fz.x_tor, Fz.x_tyes, Fz.x_blO, Fz.x_ubl, Fz.x_uint, Fz.x_unon, Fz.x_utup, Fz.x_ulsv, Fz.x_call, Fz.x_oc, Fz.x_io, Fz.x_put, Fz.x_perm0, Fz.x_def, Fz.x_defF, Fz.x_outs0, Fz.x_outsT, Fz.x_outsF, Fz.x_for, Fz.x_iof, Fz.x_ien, Fz.x_iN, Fz.x_srcT, Fz.x_srcF, Fz.x_srcL, Fz.x_srcS, Fz.x_zip, Fz.x_zipT, Fz.x_en, Fz.x_lc, Fz.x_rest0, Fz.x_restS, Fz.x_rsV, Fz.x_rsN, Fz.x_rsO, Fz.x_some, Fz.x_map, Fz.x_obind, Fz.x_mul, Fz.x_sub, Fz.x_div, Fz.x_mod, Fz.x_pow, Fz.x_shl, Fz.x_shr, Fz.x_andI, Fz.x_cmp, Fz.x_neg, Fz.x_addI, Fz.x_addS, Fz.x_addT, Fz.x_addL, Fz.x_addLL, Fz.x_mulAI, Fz.x_mulAC, Fz.x_mulAL, Fz.x_mulLL, Fz.x_tup, Fz.x_lst, Fz.x_abs, Fz.x_max2, Fz.x_min2, Fz.x_gcd, Fz.x_intI, Fz.x_intB, Fz.x_dm, Fz.x_lenS, Fz.x_lenT, Fz.x_lenF, Fz.x_lenL, Fz.x_ixT, Fz.x_ixF, Fz.x_ixL, Fz.x_ixS, Fz.x_slT, Fz.x_slF, Fz.x_slLs, Fz.x_slS, Fz.x_slLF, Fz.x_slLL, Fz.x_revS, Fz.x_revL, Fz.x_tupleT, Fz.x_tupleF, Fz.x_tupleL, Fz.x_listT, Fz.x_listF, Fz.x_listL, Fz.x_sumL, Fz.x_sumT, Fz.x_sumF, Fz.x_all, Fz.x_any, Fz.x_r1, Fz.x_r2, Fz.x_r3, Fz.x_lr, Fz.x_join, Fz.x_tyS, Fz.x_tyL, Fz.x_eqQ, Fz.x_eqS, Fz.x_neS, Fz.x_eqI, Fz.x_neI, Fz.x_eqB, Fz.x_neB, Fz.x_eqT, Fz.x_neT, Fz.x_eqL, Fz.x_neL, Fz.x_pyI, Fz.x_pyS, Fz.x_pyB, Fz.x_pyN, Fz.x_pyT, Fz.x_pyF, Fz.x_pyL, Fz.x_mp0, Fz.x_mpC, Fz.x_mpO, Fz.x_omap, Fz.x_repr, Fz.x_rp, Fz.x_pyfr, Fz.x_mpfr, Fz.x_mpint, Fz.x_isN, Fz.x_isI, Fz.x_isS, Fz.x_isT, Fz.x_isL, Fz.x_isB, Fz.x_isBB, Fz.x_isfr, Fz.x_inC, Fz.x_ninC, Fz.x_isi1, Fz.x_isi2, Fz.x_isi3, Fz.x_isi4, Fz.x_isi5, Fz.x_isi6, Fz.x_isi7, Fz.x_isi8, Fz.x_isi9, Fz.x_isi10, Fz.x_isi11, Fz.x_isi12, Fz.x_isi13, Fz.x_isi14, Fz.x_isi15, Fz.x_isi16, Fz.x_isi17, Fz.x_isi18, Fz.x_isi19, Fz.x_isi20, Fz.x_ttpf, Fz.x_ixfr0, Fz.x_ixfr1, Fz.x_lenfr, Fz.x_itfr, Fz.x_itT, Fz.x_itL, Fz.x_srcfr, Fz.x_eqfr, Fz.x_nefr, Fz.x_ufr, Fz.x_ll, Fz.x_calll, Fz.x_ienA, Fz.x_enA, Fz.x_enT, Fz.x_rvT, Fz.x_rvS, Fz.x_rvL, Fz.x_rvF, Fz.x_lcm, Fz.if_false', Fz.if_true', Fz.optQ_some, Fz.atI_0, Fz.atI_1, Fz.atI_n, Fz.ixN_0, Fz.ixN_1, Fz.ixN_n, List.set_cons_succ, List.set_cons_zero, List.getElem?_cons_succ, List.getElem?_cons_zero, List.length_cons, List.length_nil, List.map_cons, List.map_nil, List.replicate_succ, List.replicate_zero, List.cons_append, List.nil_append, List.append_assoc, List.append_nil, Fz.permL, List.filterMap_cons, List.filterMap_nil, List.length_set, List.set_set, Nat.reduceAdd, Nat.reduceLT, Nat.reduceLeDiff, Nat.reduceSub, Nat.reduceEqDiff, Int.reduceAdd, Int.reduceToNat, Int.reducePow, decide_eq_true_eq, if_true, if_false, ite_true, ite_false, true_and, and_true, not_false_eq_true, not_true_eq_false, false_and, and_false, Bool.false_eq_true, Bool.true_eq_false, Bool.not_true, Bool.not_false, Fz.cutD_map, Fz.ints_int, List.flatten_cons, List.flatten_nil, Nat.add_assoc, Fz.LINE, Fz.b62, and_assoc, List.all_cons, List.all_nil, Nat.le_refl, Option.map_some, List.cons_beq_cons, Nat.reduceBEq, Nat.reduceBNe, Bool.and_true, Bool.true_and, Bool.false_and, Bool.and_false, beq_self_eq_true, Bool.or_true, Bool.true_or, Bool.or_false, Bool.false_or, Fz.bls_map, List.length_append, List.length_map, List.length_take, List.length_drop, List.length_reverse, List.length_replicate, List.length_range, List.isEmpty_cons, List.isEmpty_nil, Int.reduceNeg, Int.reduceMul, Int.reduceSub, Int.reduceLT, Int.reduceLE, Int.reduceBEq, Int.reduceBNe, Int.reduceNe, Int.reduceEq, decide_true, decide_false, id, List.getElem?_nil, beq_iff_eq, bne_iff_ne, ne_eq, Bool.not_eq_true', Bool.and_eq_true, Bool.or_eq_true, beq_eq_false_iff_ne, Bool.not_eq_false', decide_eq_false_iff_not, Int.not_lt, Int.not_le]
  repeat ((with_reducible refine And.intro ?_ ?_); focus (first | (with_reducible assumption) | ((with_reducible refine (?_ : Fz.mulOk _ _)); first | decide +kernel | exact Fz.Bd.ok (by repeat' (first | (with_reducible assumption) | exact (show Fz.Bd 64 _ by decide) | apply Fz.Bd.mul | apply Fz.Bd.add' | apply Fz.Bd.sub' | apply Fz.Bd.neg)) (by repeat' (first | (with_reducible assumption) | exact (show Fz.Bd 64 _ by decide) | apply Fz.Bd.mul | apply Fz.Bd.add' | apply Fz.Bd.sub' | apply Fz.Bd.neg)) | exact Fz.mul_l (by omega) (by omega) | exact Fz.mul_r (by omega) (by omega)) | ((with_reducible refine (?_ : Fz.divOk _)); first | decide +kernel | exact Fz.dv_s (by omega) (by omega) | exact Fz.Bd.div (by repeat' (first | (with_reducible assumption) | exact (show Fz.Bd 64 _ by decide) | apply Fz.Bd.mul | apply Fz.Bd.add' | apply Fz.Bd.sub' | apply Fz.Bd.neg)) (by omega)) | ((with_reducible refine (?_ : L2.CDiv _ _)); exact ⟨by omega, by omega⟩) | omega | decide +kernel | exact True.intro))
  rw [intsD_map]
  refine glc (fun i acc γ => ∃ (l : List Nat) (a b c : Int), acc = nI l ∧ l.length = i ∧ (∀ c ∈ l, 6 ≤ c ∧ c ≤ 99) ∧ γ = [Pl a b c, .no, .no, .no, .no, .no, .no, .no, .no]) (by simp; omega) ⟨[], a, b, c, rfl, rfl, by simp, rfl⟩ ?_ ?_
  · rintro i w acc γ hw ⟨l, a, b, c, rfl, hi, hl, rfl⟩ _
    simp -implicitDefEqProofs only [Fz.x_ok, Fz.x_stuck, Fz.x_exc, Fz.x_ite, Fz.x_bind, Fz.x_fl, Fz.x_fl0, Fz.x_fite, Fz.x_nx, Fz.x_rt, Fz.x_fst, Fz.x_opt, Fz.x_nil, Fz.x_seq, Fz.x_expr, Fz.x_ret, Fz.x_retN, Fz.x_brk, Fz.x_cnt, Fz.x_qstuck, Fz.x_if, Fz.x_asg, Fz.x_tg, Fz.x_tgn, Fz.x_asgO, Fz.x_co, Fz.x_par2, Fz.x_par3, Fz.x_panil, Fz.x_paE, Fz.x_paF, Fz.x_parO2, Fz.x_parO3, Fz.x_p2, Fz.x_p3, Fz.x_set, Fz.x_setQ, Fz.x_wp, Fz.x_pre, Fz.x_wipe0, Fz.x_wipeS, Fz.x_tnm, Fz.x_tsnil, Fz.x_tscons, Fz.x_ttp, Fz.x_ttl, Fz.x_ttlT, Fz.x_tsb, Fz.x_var, Fz.x_slV, Fz.x_slO, Fz.x_pk, Fz.x_pkV, Fz.x_pkO, Fz.x_c, Fz.x_1, Fz.x_2, Fz.x_2k, Fz.x_n, Fz.x_n1, Fz.x_eif, Fz.x_and, Fz.x_or, Fz.x_not, Fz.x_ch, Fz.x_sl, Fz.x_slL, Fz.x_slk, Fz.x_onone, Fz.x_osome, Fz.x_inO, Fz.x_m, Fz.x_app, Fz.x_ow, Fz.x_anil, Fz.x_acons, Fz.x_astar, Fz.x_aapp, Fz.x_tru, Fz.x_tbl, Fz.x_tnot, Fz.x_tand, Fz.x_tor, Fz.x_tyes, Fz.x_blO, Fz.x_ubl, Fz.x_uint, Fz.x_unon, Fz.x_utup, Fz.x_ulsv, Fz.x_call, Fz.x_oc, Fz.x_io, Fz.x_put, Fz.x_perm0, Fz.x_def, Fz.x_defF, Fz.x_outs0, Fz.x_outsT, Fz.x_outsF, Fz.x_for, Fz.x_iof, Fz.x_ien, Fz.x_iN, Fz.x_srcT, Fz.x_srcF, Fz.x_srcL, Fz.x_srcS, Fz.x_zip, Fz.x_zipT, Fz.x_en, Fz.x_lc, Fz.x_rest0, Fz.x_restS, Fz.x_rsV, Fz.x_rsN, Fz.x_rsO, Fz.x_some, Fz.x_map, Fz.x_obind, Fz.x_mul, Fz.x_sub, Fz.x_div, Fz.x_mod, Fz.x_pow, Fz.x_shl, Fz.x_shr, Fz.x_andI, Fz.x_cmp, Fz.x_neg, Fz.x_addI, Fz.x_addS, Fz.x_addT, Fz.x_addL, Fz.x_addLL, Fz.x_mulAI, Fz.x_mulAC, Fz.x_mulAL, Fz.x_mulLL, Fz.x_tup, Fz.x_lst, Fz.x_abs, Fz.x_max2, Fz.x_min2, Fz.x_gcd, Fz.x_intI, Fz.x_intB, Fz.x_dm, Fz.x_lenS, Fz.x_lenT, Fz.x_lenF, Fz.x_lenL, Fz.x_ixT, Fz.x_ixF, Fz.x_ixL, Fz.x_ixS, Fz.x_slT, Fz.x_slF, Fz.x_slLs, Fz.x_slS, Fz.x_slLF, Fz.x_slLL, Fz.x_revS, Fz.x_revL, Fz.x_tupleT, Fz.x_tupleF, Fz.x_tupleL, Fz.x_listT, Fz.x_listF, Fz.x_listL, Fz.x_sumL, Fz.x_sumT, Fz.x_sumF, Fz.x_all, Fz.x_any, Fz.x_r1, Fz.x_r2, Fz.x_r3, Fz.x_lr, Fz.x_join, Fz.x_tyS, Fz.x_tyL, Fz.x_eqQ, Fz.x_eqS, Fz.x_neS, Fz.x_eqI, Fz.x_neI, Fz.x_eqB, Fz.x_neB, Fz.x_eqT, Fz.x_neT, Fz.x_eqL, Fz.x_neL, Fz.x_pyI, Fz.x_pyS, Fz.x_pyB, Fz.x_pyN, Fz.x_pyT, Fz.x_pyF, Fz.x_pyL, Fz.x_mp0, Fz.x_mpC, Fz.x_mpO, Fz.x_omap, Fz.x_repr, Fz.x_rp, Fz.x_pyfr, Fz.x_mpfr, Fz.x_mpint, Fz.x_isN, Fz.x_isI, Fz.x_isS, Fz.x_isT, Fz.x_isL, Fz.x_isB, Fz.x_isBB, Fz.x_isfr, Fz.x_inC, Fz.x_ninC, Fz.x_isi1, Fz.x_isi2, Fz.x_isi3, Fz.x_isi4, Fz.x_isi5, Fz.x_isi6, Fz.x_isi7, Fz.x_isi8, Fz.x_isi9, Fz.x_isi10, Fz.x_isi11, Fz.x_isi12, Fz.x_isi13, Fz.x_isi14, Fz.x_isi15, Fz.x_isi16, Fz.x_isi17, Fz.x_isi18, Fz.x_isi19, Fz.x_isi20, Fz.x_ttpf, Fz.x_ixfr0, Fz.x_ixfr1, Fz.x_lenfr, Fz.x_itfr, Fz.x_itT, Fz.x_itL, Fz.x_srcfr, Fz.x_eqfr, Fz.x_nefr, Fz.x_ufr, Fz.x_ll, Fz.x_calll, Fz.x_ienA, Fz.x_enA, Fz.x_enT, Fz.x_rvT, Fz.x_rvS, Fz.x_rvL, Fz.x_rvF, Fz.x_lcm, Fz.if_false', Fz.if_true', Fz.optQ_some, Fz.atI_0, Fz.atI_1, Fz.atI_n, Fz.ixN_0, Fz.ixN_1, Fz.ixN_n, List.set_cons_succ, List.set_cons_zero, List.getElem?_cons_succ, List.getElem?_cons_zero, List.length_cons, List.length_nil, List.map_cons, List.map_nil, List.replicate_succ, List.replicate_zero, List.cons_append, List.nil_append, List.append_assoc, List.append_nil, Fz.permL, List.filterMap_cons, List.filterMap_nil, List.length_set, List.set_set, Nat.reduceAdd, Nat.reduceLT, Nat.reduceLeDiff, Nat.reduceSub, Nat.reduceEqDiff, Int.reduceAdd, Int.reduceToNat, Int.reducePow, decide_eq_true_eq, if_true, if_false, ite_true, ite_false, true_and, and_true, not_false_eq_true, not_true_eq_false, false_and, and_false, Bool.false_eq_true, Bool.true_eq_false, Bool.not_true, Bool.not_false, Fz.cutD_map, Fz.ints_int, List.flatten_cons, List.flatten_nil, Nat.add_assoc, Fz.LINE, Fz.b62, and_assoc, List.all_cons, List.all_nil, Nat.le_refl, Option.map_some, List.cons_beq_cons, Nat.reduceBEq, Nat.reduceBNe, Bool.and_true, Bool.true_and, Bool.false_and, Bool.and_false, beq_self_eq_true, Bool.or_true, Bool.true_or, Bool.or_false, Bool.false_or, Fz.bls_map, List.length_append, List.length_map, List.length_take, List.length_drop, List.length_reverse, List.length_replicate, List.length_range, List.isEmpty_cons, List.isEmpty_nil, Int.reduceNeg, Int.reduceMul, Int.reduceSub, Int.reduceLT, Int.reduceLE, Int.reduceBEq, Int.reduceBNe, Int.reduceNe, Int.reduceEq, decide_true, decide_false, id, List.getElem?_nil, beq_iff_eq, bne_iff_ne, ne_eq, Bool.not_eq_true', Bool.and_eq_true, Bool.or_eq_true, beq_eq_false_iff_ne, Bool.not_eq_false', decide_eq_false_iff_not, Int.not_lt, Int.not_le]
    refine gsat_mono (take_spec (by decide) (by decide)) ?_
    rintro _ _ ⟨v, a, b, c, rfl, v0, v1, rfl⟩
    obtain ⟨v, rfl⟩ : ∃ n : Nat, v = (n : Int) := ⟨v.toNat, by omega⟩
    simp -implicitDefEqProofs only [Fz.x_ok, Fz.x_stuck, Fz.x_exc, Fz.x_ite, Fz.x_bind, Fz.x_fl, Fz.x_fl0, Fz.x_fite, Fz.x_nx, Fz.x_rt, Fz.x_fst, Fz.x_opt, Fz.x_nil, Fz.x_seq, Fz.x_expr, Fz.x_ret, Fz.x_retN, Fz.x_brk, Fz.x_cnt, Fz.x_qstuck, Fz.x_if, Fz.x_asg, Fz.x_tg, Fz.x_tgn, Fz.x_asgO, Fz.x_co, Fz.x_par2, Fz.x_par3, Fz.x_panil, Fz.x_paE, Fz.x_paF, Fz.x_parO2, Fz.x_parO3, Fz.x_p2, Fz.x_p3, Fz.x_set, Fz.x_setQ, Fz.x_wp, Fz.x_pre, Fz.x_wipe0, Fz.x_wipeS, Fz.x_tnm, Fz.x_tsnil, Fz.x_tscons, Fz.x_ttp, Fz.x_ttl, Fz.x_ttlT, Fz.x_tsb, Fz.x_var, Fz.x_slV, Fz.x_slO, Fz.x_pk, Fz.x_pkV, Fz.x_pkO, Fz.x_c, Fz.x_1, Fz.x_2, Fz.x_2k, Fz.x_n, Fz.x_n1, Fz.x_eif, Fz.x_and, Fz.x_or, Fz.x_not, Fz.x_ch, Fz.x_sl, Fz.x_slL, Fz.x_slk, Fz.x_onone, Fz.x_osome, Fz.x_inO, Fz.x_m, Fz.x_app, Fz.x_ow, Fz.x_anil, Fz.x_acons, Fz.x_astar, Fz.x_aapp, Fz.x_tru, Fz.x_tbl, Fz.x_tnot, Fz.x_tand, Fz.x_tor, Fz.x_tyes, Fz.x_blO, Fz.x_ubl, Fz.x_uint, Fz.x_unon, Fz.x_utup, Fz.x_ulsv, Fz.x_call, Fz.x_oc, Fz.x_io, Fz.x_put, Fz.x_perm0, Fz.x_def, Fz.x_defF, Fz.x_outs0, Fz.x_outsT, Fz.x_outsF, Fz.x_for, Fz.x_iof, Fz.x_ien, Fz.x_iN, Fz.x_srcT, Fz.x_srcF, Fz.x_srcL, Fz.x_srcS, Fz.x_zip, Fz.x_zipT, Fz.x_en, Fz.x_lc, Fz.x_rest0, Fz.x_restS, Fz.x_rsV, Fz.x_rsN, Fz.x_rsO, Fz.x_some, Fz.x_map, Fz.x_obind, Fz.x_mul, Fz.x_sub, Fz.x_div, Fz.x_mod, Fz.x_pow, Fz.x_shl, Fz.x_shr, Fz.x_andI, Fz.x_cmp, Fz.x_neg, Fz.x_addI, Fz.x_addS, Fz.x_addT, Fz.x_addL, Fz.x_addLL, Fz.x_mulAI, Fz.x_mulAC, Fz.x_mulAL, Fz.x_mulLL, Fz.x_tup, Fz.x_lst, Fz.x_abs, Fz.x_max2, Fz.x_min2, Fz.x_gcd, Fz.x_intI, Fz.x_intB, Fz.x_dm, Fz.x_lenS, Fz.x_lenT, Fz.x_lenF, Fz.x_lenL, Fz.x_ixT, Fz.x_ixF, Fz.x_ixL, Fz.x_ixS, Fz.x_slT, Fz.x_slF, Fz.x_slLs, Fz.x_slS, Fz.x_slLF, Fz.x_slLL, Fz.x_revS, Fz.x_revL, Fz.x_tupleT, Fz.x_tupleF, Fz.x_tupleL, Fz.x_listT, Fz.x_listF, Fz.x_listL, Fz.x_sumL, Fz.x_sumT, Fz.x_sumF, Fz.x_all, Fz.x_any, Fz.x_r1, Fz.x_r2, Fz.x_r3, Fz.x_lr, Fz.x_join, Fz.x_tyS, Fz.x_tyL, Fz.x_eqQ, Fz.x_eqS, Fz.x_neS, Fz.x_eqI, Fz.x_neI, Fz.x_eqB, Fz.x_neB, Fz.x_eqT, Fz.x_neT, Fz.x_eqL, Fz.x_neL, Fz.x_pyI, Fz.x_pyS, Fz.x_pyB, Fz.x_pyN, Fz.x_pyT, Fz.x_pyF, Fz.x_pyL, Fz.x_mp0, Fz.x_mpC, Fz.x_mpO, Fz.x_omap, Fz.x_repr, Fz.x_rp, Fz.x_pyfr, Fz.x_mpfr, Fz.x_mpint, Fz.x_isN, Fz.x_isI, Fz.x_isS, Fz.x_isT, Fz.x_isL, Fz.x_isB, Fz.x_isBB, Fz.x_isfr, Fz.x_inC, Fz.x_ninC, Fz.x_isi1, Fz.x_isi2, Fz.x_isi3, Fz.x_isi4, Fz.x_isi5, Fz.x_isi6, Fz.x_isi7, Fz.x_isi8, Fz.x_isi9, Fz.x_isi10, Fz.x_isi11, Fz.x_isi12, Fz.x_isi13, Fz.x_isi14, Fz.x_isi15, Fz.x_isi16, Fz.x_isi17, Fz.x_isi18, Fz.x_isi19, Fz.x_isi20, Fz.x_ttpf, Fz.x_ixfr0, Fz.x_ixfr1, Fz.x_lenfr, Fz.x_itfr, Fz.x_itT, Fz.x_itL, Fz.x_srcfr, Fz.x_eqfr, Fz.x_nefr, Fz.x_ufr, Fz.x_ll, Fz.x_calll, Fz.x_ienA, Fz.x_enA, Fz.x_enT, Fz.x_rvT, Fz.x_rvS, Fz.x_rvL, Fz.x_rvF, Fz.x_lcm, Fz.if_false', Fz.if_true', Fz.optQ_some, Fz.atI_0, Fz.atI_1, Fz.atI_n, Fz.ixN_0, Fz.ixN_1, Fz.ixN_n, List.set_cons_succ, List.set_cons_zero, List.getElem?_cons_succ, List.getElem?_cons_zero, List.length_cons, List.length_nil, List.map_cons, List.map_nil, List.replicate_succ, List.replicate_zero, List.cons_append, List.nil_append, List.append_assoc, List.append_nil, Fz.permL, List.filterMap_cons, List.filterMap_nil, List.length_set, List.set_set, Nat.reduceAdd, Nat.reduceLT, Nat.reduceLeDiff, Nat.reduceSub, Nat.reduceEqDiff, Int.reduceAdd, Int.reduceToNat, Int.reducePow, decide_eq_true_eq, if_true, if_false, ite_true, ite_false, true_and, and_true, not_false_eq_true, not_true_eq_false, false_and, and_false, Bool.false_eq_true, Bool.true_eq_false, Bool.not_true, Bool.not_false, Fz.cutD_map, Fz.ints_int, List.flatten_cons, List.flatten_nil, Nat.add_assoc, Fz.LINE, Fz.b62, and_assoc, List.all_cons, List.all_nil, Nat.le_refl, Option.map_some, List.cons_beq_cons, Nat.reduceBEq, Nat.reduceBNe, Bool.and_true, Bool.true_and, Bool.false_and, Bool.and_false, beq_self_eq_true, Bool.or_true, Bool.true_or, Bool.or_false, Bool.false_or, Fz.bls_map, List.length_append, List.length_map, List.length_take, List.length_drop, List.length_reverse, List.length_replicate, List.length_range, List.isEmpty_cons, List.isEmpty_nil, Int.reduceNeg, Int.reduceMul, Int.reduceSub, Int.reduceLT, Int.reduceLE, Int.reduceBEq, Int.reduceBNe, Int.reduceNe, Int.reduceEq, decide_true, decide_false, id, List.getElem?_nil, beq_iff_eq, bne_iff_ne, ne_eq, Bool.not_eq_true', Bool.and_eq_true, Bool.or_eq_true, beq_eq_false_iff_ne, Bool.not_eq_false', decide_eq_false_iff_not, Int.not_lt, Int.not_le]
    refine ⟨l ++ [6 + v], a, b, c, by simp [nI], by simp [hi], ?_, rfl⟩
    intro y hy
    rcases List.mem_append.mp hy with h | h
    · exact hl y h
    · simp at h; subst h; omega
  · rintro acc γ ⟨l, a, b, c, rfl, hi, hl, rfl⟩
    have hw : wheels l := ⟨hl, by simp at hi; omega, by simp at hi; omega⟩
    clear hi
    have ne : l ≠ [] := fun z => by have := hw.2.1; subst z; simp at this
    have ner : l.reverse ≠ [] := by simpa using ne
    have hp : ∀ c ∈ l, 0 < c ∧ c ≤ 99 := fun c hc => by have := hl c hc; omega
    have hh := hl _ (List.head_mem ne)
    have hla := hl _ (List.getLast_mem ne)
    have L60 := lcmL_64 hp hw.2.2
    have tr := train_eq hw ne
    have tr2 := train_eq hw.rev ner
    rw [show l.reverse.head ner = l.getLast ne by rw [List.head_reverse], show l.reverse.getLast ner = l.head ne by rw [List.getLast_reverse], List.length_reverse] at tr2
    have lt := lturns_eq hw ne
    have tb := turns_back_eq hw ne
    have tb2 := turns_back_eq hw.rev ner
    rw [lcmL_reverse, show l.reverse.head ner = l.getLast ne by rw [List.head_reverse]] at tb2
    have lo := llowest_eq (a := ((l.head ne : Nat) : Int)) (b := ((l.getLast ne : Nat) : Int)) (by omega) (by show _ < _; omega)
    have p2 : ((((l.length : Nat) : Int) % 2) == 1) = decide (l.length % 2 = 1) := by
      rw [Bool.eq_iff_iff]; simp; omega
    have f1 := red_frq (a := ((l.head ne : Nat) : Int)) (b := ((l.getLast ne : Nat) : Int)) (n := 10) (by omega) (by show _ < _; omega) (by show _ < _; omega)
    have f2 := red_frq (a := ((l.getLast ne : Nat) : Int)) (b := ((l.head ne : Nat) : Int)) (n := 10) (by omega) (by show _ < _; omega) (by show _ < _; omega)
    rw [red_swap (a := ((l.head ne : Nat) : Int)) (b := ((l.getLast ne : Nat) : Int))] at tr2
    have shf := Sh.fr f1.1 f1.2.1
    have sht := Sh.tup (.cons shf (.cons (Sh.bl (decide (l.length % 2 = 1))) .nil))
    have ok1 := Sh.ok (Sh.lst (.cons sht (.cons sht .nil)))
    have hdiv : lcmL l / l.head ne ≤ lcmL l := Nat.div_le_self _ _
    have hm : lcmL l / l.head ne * l.head ne = lcmL l := Nat.div_mul_cancel (dvd_lcmL (List.head_mem ne))
    have hm2 : lcmL l / l.getLast ne * l.getLast ne = lcmL l := Nat.div_mul_cancel (dvd_lcmL (List.getLast_mem ne))
    have hdiv2 : lcmL l / l.getLast ne ≤ lcmL l := Nat.div_le_self _ _
    have hmI : ((lcmL l / l.head ne : Nat) : Int) * ((l.head ne : Nat) : Int) = (lcmL l : Nat) := by exact_mod_cast hm
    have hmI2 : ((lcmL l / l.getLast ne : Nat) : Int) * ((l.getLast ne : Nat) : Int) = (lcmL l : Nat) := by exact_mod_cast hm2
    have sh3 := Sh.nat (i := lcmL l / l.head ne) (n := 60) (by omega)
    have ok2 := Sh.ok (Sh.lst (.cons sh3 (.cons sh3 .nil)))
    have sq : ∀ (q : Int × Int) (b : Bool), SeqAt.shaped (.tuple [pf q, .bool b]) = true := fun q b => by simp [SeqAt.shaped, PyData.canLay0, PyData.canLayAll0, PyData.depth, PyData.depthAll, pf]
    have eq_ : ∀ (q : Int × Int) (b : Bool), PyData.eqv (.tuple [pf q, .bool b]) (.tuple [pf q, .bool b]) = true := fun q b => eqv_self _ rfl
    have el : PyData.eqv (.list []) (.list []) = true := eqv_self _ rfl
    simp -implicitDefEqProofs only [Fz.x_ok, Fz.x_stuck, Fz.x_exc, Fz.x_ite, Fz.x_bind, Fz.x_fl, Fz.x_fl0, Fz.x_fite, Fz.x_nx, Fz.x_rt, Fz.x_fst, Fz.x_opt, Fz.x_nil, Fz.x_seq, Fz.x_expr, Fz.x_ret, Fz.x_retN, Fz.x_brk, Fz.x_cnt, Fz.x_qstuck, Fz.x_if, Fz.x_asg, Fz.x_tg, Fz.x_tgn, Fz.x_asgO, Fz.x_co, Fz.x_par2, Fz.x_par3, Fz.x_panil, Fz.x_paE, Fz.x_paF, Fz.x_parO2, Fz.x_parO3, Fz.x_p2, Fz.x_p3, Fz.x_set, Fz.x_setQ, Fz.x_wp, Fz.x_pre, Fz.x_wipe0, Fz.x_wipeS, Fz.x_tnm, Fz.x_tsnil, Fz.x_tscons, Fz.x_ttp, Fz.x_ttl, Fz.x_ttlT, Fz.x_tsb, Fz.x_var, Fz.x_slV, Fz.x_slO, Fz.x_pk, Fz.x_pkV, Fz.x_pkO, Fz.x_c, Fz.x_1, Fz.x_2, Fz.x_2k, Fz.x_n, Fz.x_n1, Fz.x_eif, Fz.x_and, Fz.x_or, Fz.x_not, Fz.x_ch, Fz.x_sl, Fz.x_slL, Fz.x_slk, Fz.x_onone, Fz.x_osome, Fz.x_inO, Fz.x_m, Fz.x_app, Fz.x_ow, Fz.x_anil, Fz.x_acons, Fz.x_astar, Fz.x_aapp, Fz.x_tru, Fz.x_tbl, Fz.x_tnot, Fz.x_tand, Fz.x_tor, Fz.x_tyes, Fz.x_blO, Fz.x_ubl, Fz.x_uint, Fz.x_unon, Fz.x_utup, Fz.x_ulsv, Fz.x_call, Fz.x_oc, Fz.x_io, Fz.x_put, Fz.x_perm0, Fz.x_def, Fz.x_defF, Fz.x_outs0, Fz.x_outsT, Fz.x_outsF, Fz.x_for, Fz.x_iof, Fz.x_ien, Fz.x_iN, Fz.x_srcT, Fz.x_srcF, Fz.x_srcL, Fz.x_srcS, Fz.x_zip, Fz.x_zipT, Fz.x_en, Fz.x_lc, Fz.x_rest0, Fz.x_restS, Fz.x_rsV, Fz.x_rsN, Fz.x_rsO, Fz.x_some, Fz.x_map, Fz.x_obind, Fz.x_mul, Fz.x_sub, Fz.x_div, Fz.x_mod, Fz.x_pow, Fz.x_shl, Fz.x_shr, Fz.x_andI, Fz.x_cmp, Fz.x_neg, Fz.x_addI, Fz.x_addS, Fz.x_addT, Fz.x_addL, Fz.x_addLL, Fz.x_mulAI, Fz.x_mulAC, Fz.x_mulAL, Fz.x_mulLL, Fz.x_tup, Fz.x_lst, Fz.x_abs, Fz.x_max2, Fz.x_min2, Fz.x_gcd, Fz.x_intI, Fz.x_intB, Fz.x_dm, Fz.x_lenS, Fz.x_lenT, Fz.x_lenF, Fz.x_lenL, Fz.x_ixT, Fz.x_ixF, Fz.x_ixL, Fz.x_ixS, Fz.x_slT, Fz.x_slF, Fz.x_slLs, Fz.x_slS, Fz.x_slLF, Fz.x_slLL, Fz.x_revS, Fz.x_revL, Fz.x_tupleT, Fz.x_tupleF, Fz.x_tupleL, Fz.x_listT, Fz.x_listF, Fz.x_listL, Fz.x_sumL, Fz.x_sumT, Fz.x_sumF, Fz.x_all, Fz.x_any, Fz.x_r1, Fz.x_r2, Fz.x_r3, Fz.x_lr, Fz.x_join, Fz.x_tyS, Fz.x_tyL, Fz.x_eqQ, Fz.x_eqS, Fz.x_neS, Fz.x_eqI, Fz.x_neI, Fz.x_eqB, Fz.x_neB, Fz.x_eqT, Fz.x_neT, Fz.x_eqL, Fz.x_neL, Fz.x_pyI, Fz.x_pyS, Fz.x_pyB, Fz.x_pyN, Fz.x_pyT, Fz.x_pyF, Fz.x_pyL, Fz.x_mp0, Fz.x_mpC, Fz.x_mpO, Fz.x_omap, Fz.x_repr, Fz.x_rp, Fz.x_pyfr, Fz.x_mpfr, Fz.x_mpint, Fz.x_isN, Fz.x_isI, Fz.x_isS, Fz.x_isT, Fz.x_isL, Fz.x_isB, Fz.x_isBB, Fz.x_isfr, Fz.x_inC, Fz.x_ninC, Fz.x_isi1, Fz.x_isi2, Fz.x_isi3, Fz.x_isi4, Fz.x_isi5, Fz.x_isi6, Fz.x_isi7, Fz.x_isi8, Fz.x_isi9, Fz.x_isi10, Fz.x_isi11, Fz.x_isi12, Fz.x_isi13, Fz.x_isi14, Fz.x_isi15, Fz.x_isi16, Fz.x_isi17, Fz.x_isi18, Fz.x_isi19, Fz.x_isi20, Fz.x_ttpf, Fz.x_ixfr0, Fz.x_ixfr1, Fz.x_lenfr, Fz.x_itfr, Fz.x_itT, Fz.x_itL, Fz.x_srcfr, Fz.x_eqfr, Fz.x_nefr, Fz.x_ufr, Fz.x_ll, Fz.x_calll, Fz.x_ienA, Fz.x_enA, Fz.x_enT, Fz.x_rvT, Fz.x_rvS, Fz.x_rvL, Fz.x_rvF, Fz.x_lcm, Fz.if_false', Fz.if_true', Fz.optQ_some, Fz.atI_0, Fz.atI_1, Fz.atI_n, Fz.ixN_0, Fz.ixN_1, Fz.ixN_n, List.set_cons_succ, List.set_cons_zero, List.getElem?_cons_succ, List.getElem?_cons_zero, List.length_cons, List.length_nil, List.map_cons, List.map_nil, List.replicate_succ, List.replicate_zero, List.cons_append, List.nil_append, List.append_assoc, List.append_nil, Fz.permL, List.filterMap_cons, List.filterMap_nil, List.length_set, List.set_set, Nat.reduceAdd, Nat.reduceLT, Nat.reduceLeDiff, Nat.reduceSub, Nat.reduceEqDiff, Int.reduceAdd, Int.reduceToNat, Int.reducePow, decide_eq_true_eq, if_true, if_false, ite_true, ite_false, true_and, and_true, not_false_eq_true, not_true_eq_false, false_and, and_false, Bool.false_eq_true, Bool.true_eq_false, Bool.not_true, Bool.not_false, Fz.cutD_map, Fz.ints_int, List.flatten_cons, List.flatten_nil, Nat.add_assoc, Fz.LINE, Fz.b62, and_assoc, List.all_cons, List.all_nil, Nat.le_refl, Option.map_some, List.cons_beq_cons, Nat.reduceBEq, Nat.reduceBNe, Bool.and_true, Bool.true_and, Bool.false_and, Bool.and_false, beq_self_eq_true, Bool.or_true, Bool.true_or, Bool.or_false, Bool.false_or, Fz.bls_map, List.length_append, List.length_map, List.length_take, List.length_drop, List.length_reverse, List.length_replicate, List.length_range, List.isEmpty_cons, List.isEmpty_nil, Int.reduceNeg, Int.reduceMul, Int.reduceSub, Int.reduceLT, Int.reduceLE, Int.reduceBEq, Int.reduceBNe, Int.reduceNe, Int.reduceEq, decide_true, decide_false, id, List.getElem?_nil, beq_iff_eq, bne_iff_ne, ne_eq, Bool.not_eq_true', Bool.and_eq_true, Bool.or_eq_true, beq_eq_false_iff_ne, Bool.not_eq_false', decide_eq_false_iff_not, Int.not_lt, Int.not_le, nI_0 ne, nI_last ne, lo, nI_len, p2, tr, x_pyfr, ok1, nI_rev, tr2, lt, tb, ok2, sq, eq_]
    unfold nI
    refine glcF (fun _ => false) (fun _ => .non) (by have := hw.2.2; omega) ?_ ?_
    · intro c hc
      have c9 := hl c hc
      have hmod : (((lcmL l / l.head ne : Nat) : Int) * ((l.head ne : Nat) : Int)) % (c : Int) = 0 := by
        rw [hmI]
        have := Nat.mod_eq_zero_of_dvd (dvd_lcmL hc)
        exact_mod_cast this
      have hc0 : (0 : Int) < (c : Int) := by omega
      rw [show (l.map fun (n : Nat) => D.int (n : Int)) = nI l from rfl]
      simp -implicitDefEqProofs only [Fz.x_ok, Fz.x_stuck, Fz.x_exc, Fz.x_ite, Fz.x_bind, Fz.x_fl, Fz.x_fl0, Fz.x_fite, Fz.x_nx, Fz.x_rt, Fz.x_fst, Fz.x_opt, Fz.x_nil, Fz.x_seq, Fz.x_expr, Fz.x_ret, Fz.x_retN, Fz.x_brk, Fz.x_cnt, Fz.x_qstuck, Fz.x_if, Fz.x_asg, Fz.x_tg, Fz.x_tgn, Fz.x_asgO, Fz.x_co, Fz.x_par2, Fz.x_par3, Fz.x_panil, Fz.x_paE, Fz.x_paF, Fz.x_parO2, Fz.x_parO3, Fz.x_p2, Fz.x_p3, Fz.x_set, Fz.x_setQ, Fz.x_wp, Fz.x_pre, Fz.x_wipe0, Fz.x_wipeS, Fz.x_tnm, Fz.x_tsnil, Fz.x_tscons, Fz.x_ttp, Fz.x_ttl, Fz.x_ttlT, Fz.x_tsb, Fz.x_var, Fz.x_slV, Fz.x_slO, Fz.x_pk, Fz.x_pkV, Fz.x_pkO, Fz.x_c, Fz.x_1, Fz.x_2, Fz.x_2k, Fz.x_n, Fz.x_n1, Fz.x_eif, Fz.x_and, Fz.x_or, Fz.x_not, Fz.x_ch, Fz.x_sl, Fz.x_slL, Fz.x_slk, Fz.x_onone, Fz.x_osome, Fz.x_inO, Fz.x_m, Fz.x_app, Fz.x_ow, Fz.x_anil, Fz.x_acons, Fz.x_astar, Fz.x_aapp, Fz.x_tru, Fz.x_tbl, Fz.x_tnot, Fz.x_tand, Fz.x_tor, Fz.x_tyes, Fz.x_blO, Fz.x_ubl, Fz.x_uint, Fz.x_unon, Fz.x_utup, Fz.x_ulsv, Fz.x_call, Fz.x_oc, Fz.x_io, Fz.x_put, Fz.x_perm0, Fz.x_def, Fz.x_defF, Fz.x_outs0, Fz.x_outsT, Fz.x_outsF, Fz.x_for, Fz.x_iof, Fz.x_ien, Fz.x_iN, Fz.x_srcT, Fz.x_srcF, Fz.x_srcL, Fz.x_srcS, Fz.x_zip, Fz.x_zipT, Fz.x_en, Fz.x_lc, Fz.x_rest0, Fz.x_restS, Fz.x_rsV, Fz.x_rsN, Fz.x_rsO, Fz.x_some, Fz.x_map, Fz.x_obind, Fz.x_mul, Fz.x_sub, Fz.x_div, Fz.x_mod, Fz.x_pow, Fz.x_shl, Fz.x_shr, Fz.x_andI, Fz.x_cmp, Fz.x_neg, Fz.x_addI, Fz.x_addS, Fz.x_addT, Fz.x_addL, Fz.x_addLL, Fz.x_mulAI, Fz.x_mulAC, Fz.x_mulAL, Fz.x_mulLL, Fz.x_tup, Fz.x_lst, Fz.x_abs, Fz.x_max2, Fz.x_min2, Fz.x_gcd, Fz.x_intI, Fz.x_intB, Fz.x_dm, Fz.x_lenS, Fz.x_lenT, Fz.x_lenF, Fz.x_lenL, Fz.x_ixT, Fz.x_ixF, Fz.x_ixL, Fz.x_ixS, Fz.x_slT, Fz.x_slF, Fz.x_slLs, Fz.x_slS, Fz.x_slLF, Fz.x_slLL, Fz.x_revS, Fz.x_revL, Fz.x_tupleT, Fz.x_tupleF, Fz.x_tupleL, Fz.x_listT, Fz.x_listF, Fz.x_listL, Fz.x_sumL, Fz.x_sumT, Fz.x_sumF, Fz.x_all, Fz.x_any, Fz.x_r1, Fz.x_r2, Fz.x_r3, Fz.x_lr, Fz.x_join, Fz.x_tyS, Fz.x_tyL, Fz.x_eqQ, Fz.x_eqS, Fz.x_neS, Fz.x_eqI, Fz.x_neI, Fz.x_eqB, Fz.x_neB, Fz.x_eqT, Fz.x_neT, Fz.x_eqL, Fz.x_neL, Fz.x_pyI, Fz.x_pyS, Fz.x_pyB, Fz.x_pyN, Fz.x_pyT, Fz.x_pyF, Fz.x_pyL, Fz.x_mp0, Fz.x_mpC, Fz.x_mpO, Fz.x_omap, Fz.x_repr, Fz.x_rp, Fz.x_pyfr, Fz.x_mpfr, Fz.x_mpint, Fz.x_isN, Fz.x_isI, Fz.x_isS, Fz.x_isT, Fz.x_isL, Fz.x_isB, Fz.x_isBB, Fz.x_isfr, Fz.x_inC, Fz.x_ninC, Fz.x_isi1, Fz.x_isi2, Fz.x_isi3, Fz.x_isi4, Fz.x_isi5, Fz.x_isi6, Fz.x_isi7, Fz.x_isi8, Fz.x_isi9, Fz.x_isi10, Fz.x_isi11, Fz.x_isi12, Fz.x_isi13, Fz.x_isi14, Fz.x_isi15, Fz.x_isi16, Fz.x_isi17, Fz.x_isi18, Fz.x_isi19, Fz.x_isi20, Fz.x_ttpf, Fz.x_ixfr0, Fz.x_ixfr1, Fz.x_lenfr, Fz.x_itfr, Fz.x_itT, Fz.x_itL, Fz.x_srcfr, Fz.x_eqfr, Fz.x_nefr, Fz.x_ufr, Fz.x_ll, Fz.x_calll, Fz.x_ienA, Fz.x_enA, Fz.x_enT, Fz.x_rvT, Fz.x_rvS, Fz.x_rvL, Fz.x_rvF, Fz.x_lcm, Fz.if_false', Fz.if_true', Fz.optQ_some, Fz.atI_0, Fz.atI_1, Fz.atI_n, Fz.ixN_0, Fz.ixN_1, Fz.ixN_n, List.set_cons_succ, List.set_cons_zero, List.getElem?_cons_succ, List.getElem?_cons_zero, List.length_cons, List.length_nil, List.map_cons, List.map_nil, List.replicate_succ, List.replicate_zero, List.cons_append, List.nil_append, List.append_assoc, List.append_nil, Fz.permL, List.filterMap_cons, List.filterMap_nil, List.length_set, List.set_set, Nat.reduceAdd, Nat.reduceLT, Nat.reduceLeDiff, Nat.reduceSub, Nat.reduceEqDiff, Int.reduceAdd, Int.reduceToNat, Int.reducePow, decide_eq_true_eq, if_true, if_false, ite_true, ite_false, true_and, and_true, not_false_eq_true, not_true_eq_false, false_and, and_false, Bool.false_eq_true, Bool.true_eq_false, Bool.not_true, Bool.not_false, Fz.cutD_map, Fz.ints_int, List.flatten_cons, List.flatten_nil, Nat.add_assoc, Fz.LINE, Fz.b62, and_assoc, List.all_cons, List.all_nil, Nat.le_refl, Option.map_some, List.cons_beq_cons, Nat.reduceBEq, Nat.reduceBNe, Bool.and_true, Bool.true_and, Bool.false_and, Bool.and_false, beq_self_eq_true, Bool.or_true, Bool.true_or, Bool.or_false, Bool.false_or, Fz.bls_map, List.length_append, List.length_map, List.length_take, List.length_drop, List.length_reverse, List.length_replicate, List.length_range, List.isEmpty_cons, List.isEmpty_nil, Int.reduceNeg, Int.reduceMul, Int.reduceSub, Int.reduceLT, Int.reduceLE, Int.reduceBEq, Int.reduceBNe, Int.reduceNe, Int.reduceEq, decide_true, decide_false, id, List.getElem?_nil, beq_iff_eq, bne_iff_ne, ne_eq, Bool.not_eq_true', Bool.and_eq_true, Bool.or_eq_true, beq_eq_false_iff_ne, Bool.not_eq_false', decide_eq_false_iff_not, Int.not_lt, Int.not_le, nI_0 ne, hmod, hc0]
      exact ⟨.inr (.inr ⟨by omega, by omega⟩), fun z => z.elim, fun _ => trivial⟩
    · rw [show (l.map fun (n : Nat) => D.int (n : Int)) = nI l from rfl]
      rw [show l.filter (fun _ => false) = [] by simp]
      have h1 : 1 < l.length := by have := hw.2.1; omega
      have hy := hl _ (List.getElem_mem h1)
      have at1 : (nI l)[1]? = some (.int (l[1] : Nat)) := by unfold nI; rw [List.getElem?_map, List.getElem?_eq_getElem h1]; rfl
      have cm := common_eq (a := ((l.head ne : Nat) : Int)) (b := ((l[1] : Nat) : Int)) (by show _ < _; omega)
      have hu := is_hunting_eq hh hy
      have hu2 := is_hunting_eq hy hh
      rw [Nat.gcd_comm] at hu2
      have w2 : wheels [l.head ne, l[1]] := ⟨fun c hc => by simp at hc; rcases hc with rfl | rfl <;> assumption, by simp, by simp⟩
      have tb3 : G_turns_back [.vl (.tup [.int (l.head ne : Nat), .int (l[1] : Nat)])] = .ok (.int (Nat.lcm (l.head ne) l[1] / l.head ne : Nat)) [.no] := by
        have := turns_back_eq w2 (by simp)
        simp only [lcmL_cons, show lcmL [] = 1 from rfl, Nat.lcm_one_right, List.head_cons] at this
        exact this
      have ge : (gI ((l.head ne : Nat) : Int) ((l[1] : Nat) : Int) == 1) = (Nat.gcd (l.head ne) l[1] == 1) := by
        rw [Bool.eq_iff_iff]; unfold gI; simp; omega
      have key : ((((Nat.lcm (l.head ne) l[1] / l.head ne : Nat) : Int)) == ((l[1] : Nat) : Int)) = (Nat.gcd (l.head ne) l[1] == 1) := by
        rw [Bool.eq_iff_iff]
        simp only [beq_iff_eq]
        have h2 : Nat.gcd (l.head ne) l[1] * Nat.lcm (l.head ne) l[1] = l.head ne * l[1] := Nat.gcd_mul_lcm _ _
        have h3 : Nat.lcm (l.head ne) l[1] / l.head ne * l.head ne = Nat.lcm (l.head ne) l[1] := Nat.div_mul_cancel (Nat.dvd_lcm_left _ _)
        generalize Nat.lcm (l.head ne) l[1] / l.head ne = m at *
        generalize Nat.lcm (l.head ne) l[1] = L at *
        generalize Nat.gcd (l.head ne) l[1] = g at *
        generalize l.head ne = x at *
        generalize l[1] = y at *
        constructor
        · intro h
          have hmy : m = y := by omega
          subst hmy
          rw [← h3] at h2
          have h4 : g * (m * x) = 1 * (m * x) := by rw [h2, Nat.one_mul, Nat.mul_comm]
          exact Nat.eq_of_mul_eq_mul_right (Nat.mul_pos (by omega) (by omega)) h4
        · intro h
          subst h
          rw [Nat.one_mul, ← h3] at h2
          have : m = y := Nat.eq_of_mul_eq_mul_right (show 0 < x by omega) (by rw [h2, Nat.mul_comm])
          omega
      have okb := Sh.ok (Sh.lst (.cons (Sh.bl ((Nat.gcd (l.head ne) l[1] == 1))) (.cons (Sh.bl ((Nat.gcd (l.head ne) l[1] == 1))) (.cons (Sh.bl ((Nat.gcd (l.head ne) l[1] == 1))) .nil))))
      simp -implicitDefEqProofs only [Fz.x_ok, Fz.x_stuck, Fz.x_exc, Fz.x_ite, Fz.x_bind, Fz.x_fl, Fz.x_fl0, Fz.x_fite, Fz.x_nx, Fz.x_rt, Fz.x_fst, Fz.x_opt, Fz.x_nil, Fz.x_seq, Fz.x_expr, Fz.x_ret, Fz.x_retN, Fz.x_brk, Fz.x_cnt, Fz.x_qstuck, Fz.x_if, Fz.x_asg, Fz.x_tg, Fz.x_tgn, Fz.x_asgO, Fz.x_co, Fz.x_par2, Fz.x_par3, Fz.x_panil, Fz.x_paE, Fz.x_paF, Fz.x_parO2, Fz.x_parO3, Fz.x_p2, Fz.x_p3, Fz.x_set, Fz.x_setQ, Fz.x_wp, Fz.x_pre, Fz.x_wipe0, Fz.x_wipeS, Fz.x_tnm, Fz.x_tsnil, Fz.x_tscons, Fz.x_ttp, Fz.x_ttl, Fz.x_ttlT, Fz.x_tsb, Fz.x_var, Fz.x_slV, Fz.x_slO, Fz.x_pk, Fz.x_pkV, Fz.x_pkO, Fz.x_c, Fz.x_1, Fz.x_2, Fz.x_2k, Fz.x_n, Fz.x_n1, Fz.x_eif, Fz.x_and, Fz.x_or, Fz.x_not, Fz.x_ch, Fz.x_sl, Fz.x_slL, Fz.x_slk, Fz.x_onone, Fz.x_osome, Fz.x_inO, Fz.x_m, Fz.x_app, Fz.x_ow, Fz.x_anil, Fz.x_acons, Fz.x_astar, Fz.x_aapp, Fz.x_tru, Fz.x_tbl, Fz.x_tnot, Fz.x_tand, Fz.x_tor, Fz.x_tyes, Fz.x_blO, Fz.x_ubl, Fz.x_uint, Fz.x_unon, Fz.x_utup, Fz.x_ulsv, Fz.x_call, Fz.x_oc, Fz.x_io, Fz.x_put, Fz.x_perm0, Fz.x_def, Fz.x_defF, Fz.x_outs0, Fz.x_outsT, Fz.x_outsF, Fz.x_for, Fz.x_iof, Fz.x_ien, Fz.x_iN, Fz.x_srcT, Fz.x_srcF, Fz.x_srcL, Fz.x_srcS, Fz.x_zip, Fz.x_zipT, Fz.x_en, Fz.x_lc, Fz.x_rest0, Fz.x_restS, Fz.x_rsV, Fz.x_rsN, Fz.x_rsO, Fz.x_some, Fz.x_map, Fz.x_obind, Fz.x_mul, Fz.x_sub, Fz.x_div, Fz.x_mod, Fz.x_pow, Fz.x_shl, Fz.x_shr, Fz.x_andI, Fz.x_cmp, Fz.x_neg, Fz.x_addI, Fz.x_addS, Fz.x_addT, Fz.x_addL, Fz.x_addLL, Fz.x_mulAI, Fz.x_mulAC, Fz.x_mulAL, Fz.x_mulLL, Fz.x_tup, Fz.x_lst, Fz.x_abs, Fz.x_max2, Fz.x_min2, Fz.x_gcd, Fz.x_intI, Fz.x_intB, Fz.x_dm, Fz.x_lenS, Fz.x_lenT, Fz.x_lenF, Fz.x_lenL, Fz.x_ixT, Fz.x_ixF, Fz.x_ixL, Fz.x_ixS, Fz.x_slT, Fz.x_slF, Fz.x_slLs, Fz.x_slS, Fz.x_slLF, Fz.x_slLL, Fz.x_revS, Fz.x_revL, Fz.x_tupleT, Fz.x_tupleF, Fz.x_tupleL, Fz.x_listT, Fz.x_listF, Fz.x_listL, Fz.x_sumL, Fz.x_sumT, Fz.x_sumF, Fz.x_all, Fz.x_any, Fz.x_r1, Fz.x_r2, Fz.x_r3, Fz.x_lr, Fz.x_join, Fz.x_tyS, Fz.x_tyL, Fz.x_eqQ, Fz.x_eqS, Fz.x_neS, Fz.x_eqI, Fz.x_neI, Fz.x_eqB, Fz.x_neB, Fz.x_eqT, Fz.x_neT, Fz.x_eqL, Fz.x_neL, Fz.x_pyI, Fz.x_pyS, Fz.x_pyB, Fz.x_pyN, Fz.x_pyT, Fz.x_pyF, Fz.x_pyL, Fz.x_mp0, Fz.x_mpC, Fz.x_mpO, Fz.x_omap, Fz.x_repr, Fz.x_rp, Fz.x_pyfr, Fz.x_mpfr, Fz.x_mpint, Fz.x_isN, Fz.x_isI, Fz.x_isS, Fz.x_isT, Fz.x_isL, Fz.x_isB, Fz.x_isBB, Fz.x_isfr, Fz.x_inC, Fz.x_ninC, Fz.x_isi1, Fz.x_isi2, Fz.x_isi3, Fz.x_isi4, Fz.x_isi5, Fz.x_isi6, Fz.x_isi7, Fz.x_isi8, Fz.x_isi9, Fz.x_isi10, Fz.x_isi11, Fz.x_isi12, Fz.x_isi13, Fz.x_isi14, Fz.x_isi15, Fz.x_isi16, Fz.x_isi17, Fz.x_isi18, Fz.x_isi19, Fz.x_isi20, Fz.x_ttpf, Fz.x_ixfr0, Fz.x_ixfr1, Fz.x_lenfr, Fz.x_itfr, Fz.x_itT, Fz.x_itL, Fz.x_srcfr, Fz.x_eqfr, Fz.x_nefr, Fz.x_ufr, Fz.x_ll, Fz.x_calll, Fz.x_ienA, Fz.x_enA, Fz.x_enT, Fz.x_rvT, Fz.x_rvS, Fz.x_rvL, Fz.x_rvF, Fz.x_lcm, Fz.if_false', Fz.if_true', Fz.optQ_some, Fz.atI_0, Fz.atI_1, Fz.atI_n, Fz.ixN_0, Fz.ixN_1, Fz.ixN_n, List.set_cons_succ, List.set_cons_zero, List.getElem?_cons_succ, List.getElem?_cons_zero, List.length_cons, List.length_nil, List.map_cons, List.map_nil, List.replicate_succ, List.replicate_zero, List.cons_append, List.nil_append, List.append_assoc, List.append_nil, Fz.permL, List.filterMap_cons, List.filterMap_nil, List.length_set, List.set_set, Nat.reduceAdd, Nat.reduceLT, Nat.reduceLeDiff, Nat.reduceSub, Nat.reduceEqDiff, Int.reduceAdd, Int.reduceToNat, Int.reducePow, decide_eq_true_eq, if_true, if_false, ite_true, ite_false, true_and, and_true, not_false_eq_true, not_true_eq_false, false_and, and_false, Bool.false_eq_true, Bool.true_eq_false, Bool.not_true, Bool.not_false, Fz.cutD_map, Fz.ints_int, List.flatten_cons, List.flatten_nil, Nat.add_assoc, Fz.LINE, Fz.b62, and_assoc, List.all_cons, List.all_nil, Nat.le_refl, Option.map_some, List.cons_beq_cons, Nat.reduceBEq, Nat.reduceBNe, Bool.and_true, Bool.true_and, Bool.false_and, Bool.and_false, beq_self_eq_true, Bool.or_true, Bool.true_or, Bool.or_false, Bool.false_or, Fz.bls_map, List.length_append, List.length_map, List.length_take, List.length_drop, List.length_reverse, List.length_replicate, List.length_range, List.isEmpty_cons, List.isEmpty_nil, Int.reduceNeg, Int.reduceMul, Int.reduceSub, Int.reduceLT, Int.reduceLE, Int.reduceBEq, Int.reduceBNe, Int.reduceNe, Int.reduceEq, decide_true, decide_false, id, List.getElem?_nil, beq_iff_eq, bne_iff_ne, ne_eq, Bool.not_eq_true', Bool.and_eq_true, Bool.or_eq_true, beq_eq_false_iff_ne, Bool.not_eq_false', decide_eq_false_iff_not, Int.not_lt, Int.not_le, sh_l0, el, nI_0 ne, at1, cm, ge, hu, hu2, okb, tb3, key, nI_rev, tb2, nI_last ne]
      rw [hmI, hmI2]
      exact ⟨by decide, .inr (.inr ⟨by omega, by omega⟩), .inr (.inr ⟨by omega, by omega⟩), _, _, _, by simp, rfl⟩
theorem law_ok : ∀ ns : List Int, ns.length ≤ 63 → ∃ o, G_law [.vl (.frl (ns.map D.int))] = .ok (.bl true) o := by
  intro ns hns
  have h : (G_law [.vl (.frl (ns.map D.int))]).sat (fun d o => d = .bl true) noX := by
    unfold G_law g_law
    simp -implicitDefEqProofs only [Fz.x_ok, Fz.x_stuck, Fz.x_exc, Fz.x_ite, Fz.x_bind, Fz.x_fl, Fz.x_fl0, Fz.x_fite, Fz.x_nx, Fz.x_rt, Fz.x_fst, Fz.x_opt, Fz.x_nil, Fz.x_seq, Fz.x_expr, Fz.x_ret, Fz.x_retN, Fz.x_brk, Fz.x_cnt, Fz.x_qstuck, Fz.x_if, Fz.x_asg, Fz.x_tg, Fz.x_tgn, Fz.x_asgO, Fz.x_co, Fz.x_par2, Fz.x_par3, Fz.x_panil, Fz.x_paE, Fz.x_paF, Fz.x_parO2, Fz.x_parO3, Fz.x_p2, Fz.x_p3, Fz.x_set, Fz.x_setQ, Fz.x_wp, Fz.x_pre, Fz.x_wipe0, Fz.x_wipeS, Fz.x_tnm, Fz.x_tsnil, Fz.x_tscons, Fz.x_ttp, Fz.x_ttl, Fz.x_ttlT, Fz.x_tsb, Fz.x_var, Fz.x_slV, Fz.x_slO, Fz.x_pk, Fz.x_pkV, Fz.x_pkO, Fz.x_c, Fz.x_1, Fz.x_2, Fz.x_2k, Fz.x_n, Fz.x_n1, Fz.x_eif, Fz.x_and, Fz.x_or, Fz.x_not, Fz.x_ch, Fz.x_sl, Fz.x_slL, Fz.x_slk, Fz.x_onone, Fz.x_osome, Fz.x_inO, Fz.x_m, Fz.x_app, Fz.x_ow, Fz.x_anil, Fz.x_acons, Fz.x_astar, Fz.x_aapp, Fz.x_tru, Fz.x_tbl, Fz.x_tnot, Fz.x_tand, Fz.x_tor, Fz.x_tyes, Fz.x_blO, Fz.x_ubl, Fz.x_uint, Fz.x_unon, Fz.x_utup, Fz.x_ulsv, Fz.x_call, Fz.x_oc, Fz.x_io, Fz.x_put, Fz.x_perm0, Fz.x_def, Fz.x_defF, Fz.x_outs0, Fz.x_outsT, Fz.x_outsF, Fz.x_for, Fz.x_iof, Fz.x_ien, Fz.x_iN, Fz.x_srcT, Fz.x_srcF, Fz.x_srcL, Fz.x_srcS, Fz.x_zip, Fz.x_zipT, Fz.x_en, Fz.x_lc, Fz.x_rest0, Fz.x_restS, Fz.x_rsV, Fz.x_rsN, Fz.x_rsO, Fz.x_some, Fz.x_map, Fz.x_obind, Fz.x_mul, Fz.x_sub, Fz.x_div, Fz.x_mod, Fz.x_pow, Fz.x_shl, Fz.x_shr, Fz.x_andI, Fz.x_cmp, Fz.x_neg, Fz.x_addI, Fz.x_addS, Fz.x_addT, Fz.x_addL, Fz.x_addLL, Fz.x_mulAI, Fz.x_mulAC, Fz.x_mulAL, Fz.x_mulLL, Fz.x_tup, Fz.x_lst, Fz.x_abs, Fz.x_max2, Fz.x_min2, Fz.x_gcd, Fz.x_intI, Fz.x_intB, Fz.x_dm, Fz.x_lenS, Fz.x_lenT, Fz.x_lenF, Fz.x_lenL, Fz.x_ixT, Fz.x_ixF, Fz.x_ixL, Fz.x_ixS, Fz.x_slT, Fz.x_slF, Fz.x_slLs, Fz.x_slS, Fz.x_slLF, Fz.x_slLL, Fz.x_revS, Fz.x_revL, Fz.x_tupleT, Fz.x_tupleF, Fz.x_tupleL, Fz.x_listT, Fz.x_listF, Fz.x_listL, Fz.x_sumL, Fz.x_sumT, Fz.x_sumF, Fz.x_all, Fz.x_any, Fz.x_r1, Fz.x_r2, Fz.x_r3, Fz.x_lr, Fz.x_join, Fz.x_tyS, Fz.x_tyL, Fz.x_eqQ, Fz.x_eqS, Fz.x_neS, Fz.x_eqI, Fz.x_neI, Fz.x_eqB, Fz.x_neB, Fz.x_eqT, Fz.x_neT, Fz.x_eqL, Fz.x_neL, Fz.x_pyI, Fz.x_pyS, Fz.x_pyB, Fz.x_pyN, Fz.x_pyT, Fz.x_pyF, Fz.x_pyL, Fz.x_mp0, Fz.x_mpC, Fz.x_mpO, Fz.x_omap, Fz.x_repr, Fz.x_rp, Fz.x_pyfr, Fz.x_mpfr, Fz.x_mpint, Fz.x_isN, Fz.x_isI, Fz.x_isS, Fz.x_isT, Fz.x_isL, Fz.x_isB, Fz.x_isBB, Fz.x_isfr, Fz.x_inC, Fz.x_ninC, Fz.x_isi1, Fz.x_isi2, Fz.x_isi3, Fz.x_isi4, Fz.x_isi5, Fz.x_isi6, Fz.x_isi7, Fz.x_isi8, Fz.x_isi9, Fz.x_isi10, Fz.x_isi11, Fz.x_isi12, Fz.x_isi13, Fz.x_isi14, Fz.x_isi15, Fz.x_isi16, Fz.x_isi17, Fz.x_isi18, Fz.x_isi19, Fz.x_isi20, Fz.x_ttpf, Fz.x_ixfr0, Fz.x_ixfr1, Fz.x_lenfr, Fz.x_itfr, Fz.x_itT, Fz.x_itL, Fz.x_srcfr, Fz.x_eqfr, Fz.x_nefr, Fz.x_ufr, Fz.x_ll, Fz.x_calll, Fz.x_ienA, Fz.x_enA, Fz.x_enT, Fz.x_rvT, Fz.x_rvS, Fz.x_rvL, Fz.x_rvF, Fz.x_lcm, Fz.if_false', Fz.if_true', Fz.optQ_some, Fz.atI_0, Fz.atI_1, Fz.atI_n, Fz.ixN_0, Fz.ixN_1, Fz.ixN_n, List.set_cons_succ, List.set_cons_zero, List.getElem?_cons_succ, List.getElem?_cons_zero, List.length_cons, List.length_nil, List.map_cons, List.map_nil, List.replicate_succ, List.replicate_zero, List.cons_append, List.nil_append, List.append_assoc, List.append_nil, Fz.permL, List.filterMap_cons, List.filterMap_nil, List.length_set, List.set_set, Nat.reduceAdd, Nat.reduceLT, Nat.reduceLeDiff, Nat.reduceSub, Nat.reduceEqDiff, Int.reduceAdd, Int.reduceToNat, Int.reducePow, decide_eq_true_eq, if_true, if_false, ite_true, ite_false, true_and, and_true, not_false_eq_true, not_true_eq_false, false_and, and_false, Bool.false_eq_true, Bool.true_eq_false, Bool.not_true, Bool.not_false, Fz.cutD_map, Fz.ints_int, List.flatten_cons, List.flatten_nil, Nat.add_assoc, Fz.LINE, Fz.b62, and_assoc, List.all_cons, List.all_nil, Nat.le_refl, Option.map_some, List.cons_beq_cons, Nat.reduceBEq, Nat.reduceBNe, Bool.and_true, Bool.true_and, Bool.false_and, Bool.and_false, beq_self_eq_true, Bool.or_true, Bool.true_or, Bool.or_false, Bool.false_or, Fz.bls_map, List.length_append, List.length_map, List.length_take, List.length_drop, List.length_reverse, List.length_replicate, List.length_range, List.isEmpty_cons, List.isEmpty_nil, Int.reduceNeg, Int.reduceMul, Int.reduceSub, Int.reduceLT, Int.reduceLE, Int.reduceBEq, Int.reduceBNe, Int.reduceNe, Int.reduceEq, decide_true, decide_false, id, List.getElem?_nil, beq_iff_eq, bne_iff_ne, ne_eq, Bool.not_eq_true', Bool.and_eq_true, Bool.or_eq_true, beq_eq_false_iff_ne, Bool.not_eq_false', decide_eq_false_iff_not, Int.not_lt, Int.not_le]
    have hm : ∀ x : Int, 0 ≤ x → 0 ≤ (if (if (3 : Int) < x then 3 else x) > 2 then (if (3 : Int) < x then 3 else x) else 2) ∧ (if (if (3 : Int) < x then 3 else x) > 2 then (if (3 : Int) < x then 3 else x) else 2) ≤ 3 := fun x hx => by split <;> split <;> omega
    obtain ⟨m, hm'⟩ : ∃ m : Nat, (if (if (3 : Int) < (ns.length : Int) then 3 else (ns.length : Int)) > 2 then (if (3 : Int) < (ns.length : Int) then 3 else (ns.length : Int)) else 2) = (m : Int) ∧ m ≤ 3 := by
      have := hm ns.length (by omega)
      exact ⟨_, (Int.toNat_of_nonneg this.1).symm, by omega⟩
    rw [hm'.1]
    repeat ((with_reducible refine And.intro ?_ ?_); focus (first | (with_reducible assumption) | ((with_reducible refine (?_ : Fz.mulOk _ _)); first | decide +kernel | exact Fz.Bd.ok (by repeat' (first | (with_reducible assumption) | exact (show Fz.Bd 64 _ by decide) | apply Fz.Bd.mul | apply Fz.Bd.add' | apply Fz.Bd.sub' | apply Fz.Bd.neg)) (by repeat' (first | (with_reducible assumption) | exact (show Fz.Bd 64 _ by decide) | apply Fz.Bd.mul | apply Fz.Bd.add' | apply Fz.Bd.sub' | apply Fz.Bd.neg)) | exact Fz.mul_l (by omega) (by omega) | exact Fz.mul_r (by omega) (by omega)) | ((with_reducible refine (?_ : Fz.divOk _)); first | decide +kernel | exact Fz.dv_s (by omega) (by omega) | exact Fz.Bd.div (by repeat' (first | (with_reducible assumption) | exact (show Fz.Bd 64 _ by decide) | apply Fz.Bd.mul | apply Fz.Bd.add' | apply Fz.Bd.sub' | apply Fz.Bd.neg)) (by omega)) | ((with_reducible refine (?_ : L2.CDiv _ _)); exact ⟨by omega, by omega⟩) | omega | decide +kernel | exact True.intro))
    rw [intsD_map]
    refine gforX (fun _ : Unit => [.vl (.frl (ns.map D.int)), .no, .no, .no]) (fun _ _ => True) () rfl trivial ?_ ?_
    · intro i k _ hk _
      have hk' : k < 3 := by
        have := List.mem_range.mp (List.mem_of_getElem? hk)
        simp at this; omega
      simp -implicitDefEqProofs only [Fz.x_ok, Fz.x_stuck, Fz.x_exc, Fz.x_ite, Fz.x_bind, Fz.x_fl, Fz.x_fl0, Fz.x_fite, Fz.x_nx, Fz.x_rt, Fz.x_fst, Fz.x_opt, Fz.x_nil, Fz.x_seq, Fz.x_expr, Fz.x_ret, Fz.x_retN, Fz.x_brk, Fz.x_cnt, Fz.x_qstuck, Fz.x_if, Fz.x_asg, Fz.x_tg, Fz.x_tgn, Fz.x_asgO, Fz.x_co, Fz.x_par2, Fz.x_par3, Fz.x_panil, Fz.x_paE, Fz.x_paF, Fz.x_parO2, Fz.x_parO3, Fz.x_p2, Fz.x_p3, Fz.x_set, Fz.x_setQ, Fz.x_wp, Fz.x_pre, Fz.x_wipe0, Fz.x_wipeS, Fz.x_tnm, Fz.x_tsnil, Fz.x_tscons, Fz.x_ttp, Fz.x_ttl, Fz.x_ttlT, Fz.x_tsb, Fz.x_var, Fz.x_slV, Fz.x_slO, Fz.x_pk, Fz.x_pkV, Fz.x_pkO, Fz.x_c, Fz.x_1, Fz.x_2, Fz.x_2k, Fz.x_n, Fz.x_n1, Fz.x_eif, Fz.x_and, Fz.x_or, Fz.x_not, Fz.x_ch, Fz.x_sl, Fz.x_slL, Fz.x_slk, Fz.x_onone, Fz.x_osome, Fz.x_inO, Fz.x_m, Fz.x_app, Fz.x_ow, Fz.x_anil, Fz.x_acons, Fz.x_astar, Fz.x_aapp, Fz.x_tru, Fz.x_tbl, Fz.x_tnot, Fz.x_tand, Fz.x_tor, Fz.x_tyes, Fz.x_blO, Fz.x_ubl, Fz.x_uint, Fz.x_unon, Fz.x_utup, Fz.x_ulsv, Fz.x_call, Fz.x_oc, Fz.x_io, Fz.x_put, Fz.x_perm0, Fz.x_def, Fz.x_defF, Fz.x_outs0, Fz.x_outsT, Fz.x_outsF, Fz.x_for, Fz.x_iof, Fz.x_ien, Fz.x_iN, Fz.x_srcT, Fz.x_srcF, Fz.x_srcL, Fz.x_srcS, Fz.x_zip, Fz.x_zipT, Fz.x_en, Fz.x_lc, Fz.x_rest0, Fz.x_restS, Fz.x_rsV, Fz.x_rsN, Fz.x_rsO, Fz.x_some, Fz.x_map, Fz.x_obind, Fz.x_mul, Fz.x_sub, Fz.x_div, Fz.x_mod, Fz.x_pow, Fz.x_shl, Fz.x_shr, Fz.x_andI, Fz.x_cmp, Fz.x_neg, Fz.x_addI, Fz.x_addS, Fz.x_addT, Fz.x_addL, Fz.x_addLL, Fz.x_mulAI, Fz.x_mulAC, Fz.x_mulAL, Fz.x_mulLL, Fz.x_tup, Fz.x_lst, Fz.x_abs, Fz.x_max2, Fz.x_min2, Fz.x_gcd, Fz.x_intI, Fz.x_intB, Fz.x_dm, Fz.x_lenS, Fz.x_lenT, Fz.x_lenF, Fz.x_lenL, Fz.x_ixT, Fz.x_ixF, Fz.x_ixL, Fz.x_ixS, Fz.x_slT, Fz.x_slF, Fz.x_slLs, Fz.x_slS, Fz.x_slLF, Fz.x_slLL, Fz.x_revS, Fz.x_revL, Fz.x_tupleT, Fz.x_tupleF, Fz.x_tupleL, Fz.x_listT, Fz.x_listF, Fz.x_listL, Fz.x_sumL, Fz.x_sumT, Fz.x_sumF, Fz.x_all, Fz.x_any, Fz.x_r1, Fz.x_r2, Fz.x_r3, Fz.x_lr, Fz.x_join, Fz.x_tyS, Fz.x_tyL, Fz.x_eqQ, Fz.x_eqS, Fz.x_neS, Fz.x_eqI, Fz.x_neI, Fz.x_eqB, Fz.x_neB, Fz.x_eqT, Fz.x_neT, Fz.x_eqL, Fz.x_neL, Fz.x_pyI, Fz.x_pyS, Fz.x_pyB, Fz.x_pyN, Fz.x_pyT, Fz.x_pyF, Fz.x_pyL, Fz.x_mp0, Fz.x_mpC, Fz.x_mpO, Fz.x_omap, Fz.x_repr, Fz.x_rp, Fz.x_pyfr, Fz.x_mpfr, Fz.x_mpint, Fz.x_isN, Fz.x_isI, Fz.x_isS, Fz.x_isT, Fz.x_isL, Fz.x_isB, Fz.x_isBB, Fz.x_isfr, Fz.x_inC, Fz.x_ninC, Fz.x_isi1, Fz.x_isi2, Fz.x_isi3, Fz.x_isi4, Fz.x_isi5, Fz.x_isi6, Fz.x_isi7, Fz.x_isi8, Fz.x_isi9, Fz.x_isi10, Fz.x_isi11, Fz.x_isi12, Fz.x_isi13, Fz.x_isi14, Fz.x_isi15, Fz.x_isi16, Fz.x_isi17, Fz.x_isi18, Fz.x_isi19, Fz.x_isi20, Fz.x_ttpf, Fz.x_ixfr0, Fz.x_ixfr1, Fz.x_lenfr, Fz.x_itfr, Fz.x_itT, Fz.x_itL, Fz.x_srcfr, Fz.x_eqfr, Fz.x_nefr, Fz.x_ufr, Fz.x_ll, Fz.x_calll, Fz.x_ienA, Fz.x_enA, Fz.x_enT, Fz.x_rvT, Fz.x_rvS, Fz.x_rvL, Fz.x_rvF, Fz.x_lcm, Fz.if_false', Fz.if_true', Fz.optQ_some, Fz.atI_0, Fz.atI_1, Fz.atI_n, Fz.ixN_0, Fz.ixN_1, Fz.ixN_n, List.set_cons_succ, List.set_cons_zero, List.getElem?_cons_succ, List.getElem?_cons_zero, List.length_cons, List.length_nil, List.map_cons, List.map_nil, List.replicate_succ, List.replicate_zero, List.cons_append, List.nil_append, List.append_assoc, List.append_nil, Fz.permL, List.filterMap_cons, List.filterMap_nil, List.length_set, List.set_set, Nat.reduceAdd, Nat.reduceLT, Nat.reduceLeDiff, Nat.reduceSub, Nat.reduceEqDiff, Int.reduceAdd, Int.reduceToNat, Int.reducePow, decide_eq_true_eq, if_true, if_false, ite_true, ite_false, true_and, and_true, not_false_eq_true, not_true_eq_false, false_and, and_false, Bool.false_eq_true, Bool.true_eq_false, Bool.not_true, Bool.not_false, Fz.cutD_map, Fz.ints_int, List.flatten_cons, List.flatten_nil, Nat.add_assoc, Fz.LINE, Fz.b62, and_assoc, List.all_cons, List.all_nil, Nat.le_refl, Option.map_some, List.cons_beq_cons, Nat.reduceBEq, Nat.reduceBNe, Bool.and_true, Bool.true_and, Bool.false_and, Bool.and_false, beq_self_eq_true, Bool.or_true, Bool.true_or, Bool.or_false, Bool.false_or, Fz.bls_map, List.length_append, List.length_map, List.length_take, List.length_drop, List.length_reverse, List.length_replicate, List.length_range, List.isEmpty_cons, List.isEmpty_nil, Int.reduceNeg, Int.reduceMul, Int.reduceSub, Int.reduceLT, Int.reduceLE, Int.reduceBEq, Int.reduceBNe, Int.reduceNe, Int.reduceEq, decide_true, decide_false, id, List.getElem?_nil, beq_iff_eq, bne_iff_ne, ne_eq, Bool.not_eq_true', Bool.and_eq_true, Bool.or_eq_true, beq_eq_false_iff_ne, Bool.not_eq_false', decide_eq_false_iff_not, Int.not_lt, Int.not_le]
      refine gsat_mono (bag_spec (by omega) (by omega)) ?_
      rintro _ _ ⟨a, b, c, rfl⟩
      simp -implicitDefEqProofs only [Fz.x_ok, Fz.x_stuck, Fz.x_exc, Fz.x_ite, Fz.x_bind, Fz.x_fl, Fz.x_fl0, Fz.x_fite, Fz.x_nx, Fz.x_rt, Fz.x_fst, Fz.x_opt, Fz.x_nil, Fz.x_seq, Fz.x_expr, Fz.x_ret, Fz.x_retN, Fz.x_brk, Fz.x_cnt, Fz.x_qstuck, Fz.x_if, Fz.x_asg, Fz.x_tg, Fz.x_tgn, Fz.x_asgO, Fz.x_co, Fz.x_par2, Fz.x_par3, Fz.x_panil, Fz.x_paE, Fz.x_paF, Fz.x_parO2, Fz.x_parO3, Fz.x_p2, Fz.x_p3, Fz.x_set, Fz.x_setQ, Fz.x_wp, Fz.x_pre, Fz.x_wipe0, Fz.x_wipeS, Fz.x_tnm, Fz.x_tsnil, Fz.x_tscons, Fz.x_ttp, Fz.x_ttl, Fz.x_ttlT, Fz.x_tsb, Fz.x_var, Fz.x_slV, Fz.x_slO, Fz.x_pk, Fz.x_pkV, Fz.x_pkO, Fz.x_c, Fz.x_1, Fz.x_2, Fz.x_2k, Fz.x_n, Fz.x_n1, Fz.x_eif, Fz.x_and, Fz.x_or, Fz.x_not, Fz.x_ch, Fz.x_sl, Fz.x_slL, Fz.x_slk, Fz.x_onone, Fz.x_osome, Fz.x_inO, Fz.x_m, Fz.x_app, Fz.x_ow, Fz.x_anil, Fz.x_acons, Fz.x_astar, Fz.x_aapp, Fz.x_tru, Fz.x_tbl, Fz.x_tnot, Fz.x_tand, Fz.x_tor, Fz.x_tyes, Fz.x_blO, Fz.x_ubl, Fz.x_uint, Fz.x_unon, Fz.x_utup, Fz.x_ulsv, Fz.x_call, Fz.x_oc, Fz.x_io, Fz.x_put, Fz.x_perm0, Fz.x_def, Fz.x_defF, Fz.x_outs0, Fz.x_outsT, Fz.x_outsF, Fz.x_for, Fz.x_iof, Fz.x_ien, Fz.x_iN, Fz.x_srcT, Fz.x_srcF, Fz.x_srcL, Fz.x_srcS, Fz.x_zip, Fz.x_zipT, Fz.x_en, Fz.x_lc, Fz.x_rest0, Fz.x_restS, Fz.x_rsV, Fz.x_rsN, Fz.x_rsO, Fz.x_some, Fz.x_map, Fz.x_obind, Fz.x_mul, Fz.x_sub, Fz.x_div, Fz.x_mod, Fz.x_pow, Fz.x_shl, Fz.x_shr, Fz.x_andI, Fz.x_cmp, Fz.x_neg, Fz.x_addI, Fz.x_addS, Fz.x_addT, Fz.x_addL, Fz.x_addLL, Fz.x_mulAI, Fz.x_mulAC, Fz.x_mulAL, Fz.x_mulLL, Fz.x_tup, Fz.x_lst, Fz.x_abs, Fz.x_max2, Fz.x_min2, Fz.x_gcd, Fz.x_intI, Fz.x_intB, Fz.x_dm, Fz.x_lenS, Fz.x_lenT, Fz.x_lenF, Fz.x_lenL, Fz.x_ixT, Fz.x_ixF, Fz.x_ixL, Fz.x_ixS, Fz.x_slT, Fz.x_slF, Fz.x_slLs, Fz.x_slS, Fz.x_slLF, Fz.x_slLL, Fz.x_revS, Fz.x_revL, Fz.x_tupleT, Fz.x_tupleF, Fz.x_tupleL, Fz.x_listT, Fz.x_listF, Fz.x_listL, Fz.x_sumL, Fz.x_sumT, Fz.x_sumF, Fz.x_all, Fz.x_any, Fz.x_r1, Fz.x_r2, Fz.x_r3, Fz.x_lr, Fz.x_join, Fz.x_tyS, Fz.x_tyL, Fz.x_eqQ, Fz.x_eqS, Fz.x_neS, Fz.x_eqI, Fz.x_neI, Fz.x_eqB, Fz.x_neB, Fz.x_eqT, Fz.x_neT, Fz.x_eqL, Fz.x_neL, Fz.x_pyI, Fz.x_pyS, Fz.x_pyB, Fz.x_pyN, Fz.x_pyT, Fz.x_pyF, Fz.x_pyL, Fz.x_mp0, Fz.x_mpC, Fz.x_mpO, Fz.x_omap, Fz.x_repr, Fz.x_rp, Fz.x_pyfr, Fz.x_mpfr, Fz.x_mpint, Fz.x_isN, Fz.x_isI, Fz.x_isS, Fz.x_isT, Fz.x_isL, Fz.x_isB, Fz.x_isBB, Fz.x_isfr, Fz.x_inC, Fz.x_ninC, Fz.x_isi1, Fz.x_isi2, Fz.x_isi3, Fz.x_isi4, Fz.x_isi5, Fz.x_isi6, Fz.x_isi7, Fz.x_isi8, Fz.x_isi9, Fz.x_isi10, Fz.x_isi11, Fz.x_isi12, Fz.x_isi13, Fz.x_isi14, Fz.x_isi15, Fz.x_isi16, Fz.x_isi17, Fz.x_isi18, Fz.x_isi19, Fz.x_isi20, Fz.x_ttpf, Fz.x_ixfr0, Fz.x_ixfr1, Fz.x_lenfr, Fz.x_itfr, Fz.x_itT, Fz.x_itL, Fz.x_srcfr, Fz.x_eqfr, Fz.x_nefr, Fz.x_ufr, Fz.x_ll, Fz.x_calll, Fz.x_ienA, Fz.x_enA, Fz.x_enT, Fz.x_rvT, Fz.x_rvS, Fz.x_rvL, Fz.x_rvF, Fz.x_lcm, Fz.if_false', Fz.if_true', Fz.optQ_some, Fz.atI_0, Fz.atI_1, Fz.atI_n, Fz.ixN_0, Fz.ixN_1, Fz.ixN_n, List.set_cons_succ, List.set_cons_zero, List.getElem?_cons_succ, List.getElem?_cons_zero, List.length_cons, List.length_nil, List.map_cons, List.map_nil, List.replicate_succ, List.replicate_zero, List.cons_append, List.nil_append, List.append_assoc, List.append_nil, Fz.permL, List.filterMap_cons, List.filterMap_nil, List.length_set, List.set_set, Nat.reduceAdd, Nat.reduceLT, Nat.reduceLeDiff, Nat.reduceSub, Nat.reduceEqDiff, Int.reduceAdd, Int.reduceToNat, Int.reducePow, decide_eq_true_eq, if_true, if_false, ite_true, ite_false, true_and, and_true, not_false_eq_true, not_true_eq_false, false_and, and_false, Bool.false_eq_true, Bool.true_eq_false, Bool.not_true, Bool.not_false, Fz.cutD_map, Fz.ints_int, List.flatten_cons, List.flatten_nil, Nat.add_assoc, Fz.LINE, Fz.b62, and_assoc, List.all_cons, List.all_nil, Nat.le_refl, Option.map_some, List.cons_beq_cons, Nat.reduceBEq, Nat.reduceBNe, Bool.and_true, Bool.true_and, Bool.false_and, Bool.and_false, beq_self_eq_true, Bool.or_true, Bool.true_or, Bool.or_false, Bool.false_or, Fz.bls_map, List.length_append, List.length_map, List.length_take, List.length_drop, List.length_reverse, List.length_replicate, List.length_range, List.isEmpty_cons, List.isEmpty_nil, Int.reduceNeg, Int.reduceMul, Int.reduceSub, Int.reduceLT, Int.reduceLE, Int.reduceBEq, Int.reduceBNe, Int.reduceNe, Int.reduceEq, decide_true, decide_false, id, List.getElem?_nil, beq_iff_eq, bne_iff_ne, ne_eq, Bool.not_eq_true', Bool.and_eq_true, Bool.or_eq_true, beq_eq_false_iff_ne, Bool.not_eq_false', decide_eq_false_iff_not, Int.not_lt, Int.not_le]
      rw [intsD_map]
      refine glc (fun i acc γ => AllT acc ∧ ∃ a b c, γ = [.vl (.frl (ns.map D.int)), .vl (.int (0 + (k : Int) * 1)), Pl a b c, .no]) (by simp) ⟨.nil, _, _, _, rfl⟩ ?_ ?_
      · rintro i w acc γ hw ⟨hacc, a, b, c, rfl⟩ _
        simp -implicitDefEqProofs only [Fz.x_ok, Fz.x_stuck, Fz.x_exc, Fz.x_ite, Fz.x_bind, Fz.x_fl, Fz.x_fl0, Fz.x_fite, Fz.x_nx, Fz.x_rt, Fz.x_fst, Fz.x_opt, Fz.x_nil, Fz.x_seq, Fz.x_expr, Fz.x_ret, Fz.x_retN, Fz.x_brk, Fz.x_cnt, Fz.x_qstuck, Fz.x_if, Fz.x_asg, Fz.x_tg, Fz.x_tgn, Fz.x_asgO, Fz.x_co, Fz.x_par2, Fz.x_par3, Fz.x_panil, Fz.x_paE, Fz.x_paF, Fz.x_parO2, Fz.x_parO3, Fz.x_p2, Fz.x_p3, Fz.x_set, Fz.x_setQ, Fz.x_wp, Fz.x_pre, Fz.x_wipe0, Fz.x_wipeS, Fz.x_tnm, Fz.x_tsnil, Fz.x_tscons, Fz.x_ttp, Fz.x_ttl, Fz.x_ttlT, Fz.x_tsb, Fz.x_var, Fz.x_slV, Fz.x_slO, Fz.x_pk, Fz.x_pkV, Fz.x_pkO, Fz.x_c, Fz.x_1, Fz.x_2, Fz.x_2k, Fz.x_n, Fz.x_n1, Fz.x_eif, Fz.x_and, Fz.x_or, Fz.x_not, Fz.x_ch, Fz.x_sl, Fz.x_slL, Fz.x_slk, Fz.x_onone, Fz.x_osome, Fz.x_inO, Fz.x_m, Fz.x_app, Fz.x_ow, Fz.x_anil, Fz.x_acons, Fz.x_astar, Fz.x_aapp, Fz.x_tru, Fz.x_tbl, Fz.x_tnot, Fz.x_tand, Fz.x_tor, Fz.x_tyes, Fz.x_blO, Fz.x_ubl, Fz.x_uint, Fz.x_unon, Fz.x_utup, Fz.x_ulsv, Fz.x_call, Fz.x_oc, Fz.x_io, Fz.x_put, Fz.x_perm0, Fz.x_def, Fz.x_defF, Fz.x_outs0, Fz.x_outsT, Fz.x_outsF, Fz.x_for, Fz.x_iof, Fz.x_ien, Fz.x_iN, Fz.x_srcT, Fz.x_srcF, Fz.x_srcL, Fz.x_srcS, Fz.x_zip, Fz.x_zipT, Fz.x_en, Fz.x_lc, Fz.x_rest0, Fz.x_restS, Fz.x_rsV, Fz.x_rsN, Fz.x_rsO, Fz.x_some, Fz.x_map, Fz.x_obind, Fz.x_mul, Fz.x_sub, Fz.x_div, Fz.x_mod, Fz.x_pow, Fz.x_shl, Fz.x_shr, Fz.x_andI, Fz.x_cmp, Fz.x_neg, Fz.x_addI, Fz.x_addS, Fz.x_addT, Fz.x_addL, Fz.x_addLL, Fz.x_mulAI, Fz.x_mulAC, Fz.x_mulAL, Fz.x_mulLL, Fz.x_tup, Fz.x_lst, Fz.x_abs, Fz.x_max2, Fz.x_min2, Fz.x_gcd, Fz.x_intI, Fz.x_intB, Fz.x_dm, Fz.x_lenS, Fz.x_lenT, Fz.x_lenF, Fz.x_lenL, Fz.x_ixT, Fz.x_ixF, Fz.x_ixL, Fz.x_ixS, Fz.x_slT, Fz.x_slF, Fz.x_slLs, Fz.x_slS, Fz.x_slLF, Fz.x_slLL, Fz.x_revS, Fz.x_revL, Fz.x_tupleT, Fz.x_tupleF, Fz.x_tupleL, Fz.x_listT, Fz.x_listF, Fz.x_listL, Fz.x_sumL, Fz.x_sumT, Fz.x_sumF, Fz.x_all, Fz.x_any, Fz.x_r1, Fz.x_r2, Fz.x_r3, Fz.x_lr, Fz.x_join, Fz.x_tyS, Fz.x_tyL, Fz.x_eqQ, Fz.x_eqS, Fz.x_neS, Fz.x_eqI, Fz.x_neI, Fz.x_eqB, Fz.x_neB, Fz.x_eqT, Fz.x_neT, Fz.x_eqL, Fz.x_neL, Fz.x_pyI, Fz.x_pyS, Fz.x_pyB, Fz.x_pyN, Fz.x_pyT, Fz.x_pyF, Fz.x_pyL, Fz.x_mp0, Fz.x_mpC, Fz.x_mpO, Fz.x_omap, Fz.x_repr, Fz.x_rp, Fz.x_pyfr, Fz.x_mpfr, Fz.x_mpint, Fz.x_isN, Fz.x_isI, Fz.x_isS, Fz.x_isT, Fz.x_isL, Fz.x_isB, Fz.x_isBB, Fz.x_isfr, Fz.x_inC, Fz.x_ninC, Fz.x_isi1, Fz.x_isi2, Fz.x_isi3, Fz.x_isi4, Fz.x_isi5, Fz.x_isi6, Fz.x_isi7, Fz.x_isi8, Fz.x_isi9, Fz.x_isi10, Fz.x_isi11, Fz.x_isi12, Fz.x_isi13, Fz.x_isi14, Fz.x_isi15, Fz.x_isi16, Fz.x_isi17, Fz.x_isi18, Fz.x_isi19, Fz.x_isi20, Fz.x_ttpf, Fz.x_ixfr0, Fz.x_ixfr1, Fz.x_lenfr, Fz.x_itfr, Fz.x_itT, Fz.x_itL, Fz.x_srcfr, Fz.x_eqfr, Fz.x_nefr, Fz.x_ufr, Fz.x_ll, Fz.x_calll, Fz.x_ienA, Fz.x_enA, Fz.x_enT, Fz.x_rvT, Fz.x_rvS, Fz.x_rvL, Fz.x_rvF, Fz.x_lcm, Fz.if_false', Fz.if_true', Fz.optQ_some, Fz.atI_0, Fz.atI_1, Fz.atI_n, Fz.ixN_0, Fz.ixN_1, Fz.ixN_n, List.set_cons_succ, List.set_cons_zero, List.getElem?_cons_succ, List.getElem?_cons_zero, List.length_cons, List.length_nil, List.map_cons, List.map_nil, List.replicate_succ, List.replicate_zero, List.cons_append, List.nil_append, List.append_assoc, List.append_nil, Fz.permL, List.filterMap_cons, List.filterMap_nil, List.length_set, List.set_set, Nat.reduceAdd, Nat.reduceLT, Nat.reduceLeDiff, Nat.reduceSub, Nat.reduceEqDiff, Int.reduceAdd, Int.reduceToNat, Int.reducePow, decide_eq_true_eq, if_true, if_false, ite_true, ite_false, true_and, and_true, not_false_eq_true, not_true_eq_false, false_and, and_false, Bool.false_eq_true, Bool.true_eq_false, Bool.not_true, Bool.not_false, Fz.cutD_map, Fz.ints_int, List.flatten_cons, List.flatten_nil, Nat.add_assoc, Fz.LINE, Fz.b62, and_assoc, List.all_cons, List.all_nil, Nat.le_refl, Option.map_some, List.cons_beq_cons, Nat.reduceBEq, Nat.reduceBNe, Bool.and_true, Bool.true_and, Bool.false_and, Bool.and_false, beq_self_eq_true, Bool.or_true, Bool.true_or, Bool.or_false, Bool.false_or, Fz.bls_map, List.length_append, List.length_map, List.length_take, List.length_drop, List.length_reverse, List.length_replicate, List.length_range, List.isEmpty_cons, List.isEmpty_nil, Int.reduceNeg, Int.reduceMul, Int.reduceSub, Int.reduceLT, Int.reduceLE, Int.reduceBEq, Int.reduceBNe, Int.reduceNe, Int.reduceEq, decide_true, decide_false, id, List.getElem?_nil, beq_iff_eq, bne_iff_ne, ne_eq, Bool.not_eq_true', Bool.and_eq_true, Bool.or_eq_true, beq_eq_false_iff_ne, Bool.not_eq_false', decide_eq_false_iff_not, Int.not_lt, Int.not_le]
        refine gsat_mono right_spec ?_
        rintro _ _ ⟨a, b, c, rfl, rfl⟩
        simp -implicitDefEqProofs only [Fz.x_ok, Fz.x_stuck, Fz.x_exc, Fz.x_ite, Fz.x_bind, Fz.x_fl, Fz.x_fl0, Fz.x_fite, Fz.x_nx, Fz.x_rt, Fz.x_fst, Fz.x_opt, Fz.x_nil, Fz.x_seq, Fz.x_expr, Fz.x_ret, Fz.x_retN, Fz.x_brk, Fz.x_cnt, Fz.x_qstuck, Fz.x_if, Fz.x_asg, Fz.x_tg, Fz.x_tgn, Fz.x_asgO, Fz.x_co, Fz.x_par2, Fz.x_par3, Fz.x_panil, Fz.x_paE, Fz.x_paF, Fz.x_parO2, Fz.x_parO3, Fz.x_p2, Fz.x_p3, Fz.x_set, Fz.x_setQ, Fz.x_wp, Fz.x_pre, Fz.x_wipe0, Fz.x_wipeS, Fz.x_tnm, Fz.x_tsnil, Fz.x_tscons, Fz.x_ttp, Fz.x_ttl, Fz.x_ttlT, Fz.x_tsb, Fz.x_var, Fz.x_slV, Fz.x_slO, Fz.x_pk, Fz.x_pkV, Fz.x_pkO, Fz.x_c, Fz.x_1, Fz.x_2, Fz.x_2k, Fz.x_n, Fz.x_n1, Fz.x_eif, Fz.x_and, Fz.x_or, Fz.x_not, Fz.x_ch, Fz.x_sl, Fz.x_slL, Fz.x_slk, Fz.x_onone, Fz.x_osome, Fz.x_inO, Fz.x_m, Fz.x_app, Fz.x_ow, Fz.x_anil, Fz.x_acons, Fz.x_astar, Fz.x_aapp, Fz.x_tru, Fz.x_tbl, Fz.x_tnot, Fz.x_tand, Fz.x_tor, Fz.x_tyes, Fz.x_blO, Fz.x_ubl, Fz.x_uint, Fz.x_unon, Fz.x_utup, Fz.x_ulsv, Fz.x_call, Fz.x_oc, Fz.x_io, Fz.x_put, Fz.x_perm0, Fz.x_def, Fz.x_defF, Fz.x_outs0, Fz.x_outsT, Fz.x_outsF, Fz.x_for, Fz.x_iof, Fz.x_ien, Fz.x_iN, Fz.x_srcT, Fz.x_srcF, Fz.x_srcL, Fz.x_srcS, Fz.x_zip, Fz.x_zipT, Fz.x_en, Fz.x_lc, Fz.x_rest0, Fz.x_restS, Fz.x_rsV, Fz.x_rsN, Fz.x_rsO, Fz.x_some, Fz.x_map, Fz.x_obind, Fz.x_mul, Fz.x_sub, Fz.x_div, Fz.x_mod, Fz.x_pow, Fz.x_shl, Fz.x_shr, Fz.x_andI, Fz.x_cmp, Fz.x_neg, Fz.x_addI, Fz.x_addS, Fz.x_addT, Fz.x_addL, Fz.x_addLL, Fz.x_mulAI, Fz.x_mulAC, Fz.x_mulAL, Fz.x_mulLL, Fz.x_tup, Fz.x_lst, Fz.x_abs, Fz.x_max2, Fz.x_min2, Fz.x_gcd, Fz.x_intI, Fz.x_intB, Fz.x_dm, Fz.x_lenS, Fz.x_lenT, Fz.x_lenF, Fz.x_lenL, Fz.x_ixT, Fz.x_ixF, Fz.x_ixL, Fz.x_ixS, Fz.x_slT, Fz.x_slF, Fz.x_slLs, Fz.x_slS, Fz.x_slLF, Fz.x_slLL, Fz.x_revS, Fz.x_revL, Fz.x_tupleT, Fz.x_tupleF, Fz.x_tupleL, Fz.x_listT, Fz.x_listF, Fz.x_listL, Fz.x_sumL, Fz.x_sumT, Fz.x_sumF, Fz.x_all, Fz.x_any, Fz.x_r1, Fz.x_r2, Fz.x_r3, Fz.x_lr, Fz.x_join, Fz.x_tyS, Fz.x_tyL, Fz.x_eqQ, Fz.x_eqS, Fz.x_neS, Fz.x_eqI, Fz.x_neI, Fz.x_eqB, Fz.x_neB, Fz.x_eqT, Fz.x_neT, Fz.x_eqL, Fz.x_neL, Fz.x_pyI, Fz.x_pyS, Fz.x_pyB, Fz.x_pyN, Fz.x_pyT, Fz.x_pyF, Fz.x_pyL, Fz.x_mp0, Fz.x_mpC, Fz.x_mpO, Fz.x_omap, Fz.x_repr, Fz.x_rp, Fz.x_pyfr, Fz.x_mpfr, Fz.x_mpint, Fz.x_isN, Fz.x_isI, Fz.x_isS, Fz.x_isT, Fz.x_isL, Fz.x_isB, Fz.x_isBB, Fz.x_isfr, Fz.x_inC, Fz.x_ninC, Fz.x_isi1, Fz.x_isi2, Fz.x_isi3, Fz.x_isi4, Fz.x_isi5, Fz.x_isi6, Fz.x_isi7, Fz.x_isi8, Fz.x_isi9, Fz.x_isi10, Fz.x_isi11, Fz.x_isi12, Fz.x_isi13, Fz.x_isi14, Fz.x_isi15, Fz.x_isi16, Fz.x_isi17, Fz.x_isi18, Fz.x_isi19, Fz.x_isi20, Fz.x_ttpf, Fz.x_ixfr0, Fz.x_ixfr1, Fz.x_lenfr, Fz.x_itfr, Fz.x_itT, Fz.x_itL, Fz.x_srcfr, Fz.x_eqfr, Fz.x_nefr, Fz.x_ufr, Fz.x_ll, Fz.x_calll, Fz.x_ienA, Fz.x_enA, Fz.x_enT, Fz.x_rvT, Fz.x_rvS, Fz.x_rvL, Fz.x_rvF, Fz.x_lcm, Fz.if_false', Fz.if_true', Fz.optQ_some, Fz.atI_0, Fz.atI_1, Fz.atI_n, Fz.ixN_0, Fz.ixN_1, Fz.ixN_n, List.set_cons_succ, List.set_cons_zero, List.getElem?_cons_succ, List.getElem?_cons_zero, List.length_cons, List.length_nil, List.map_cons, List.map_nil, List.replicate_succ, List.replicate_zero, List.cons_append, List.nil_append, List.append_assoc, List.append_nil, Fz.permL, List.filterMap_cons, List.filterMap_nil, List.length_set, List.set_set, Nat.reduceAdd, Nat.reduceLT, Nat.reduceLeDiff, Nat.reduceSub, Nat.reduceEqDiff, Int.reduceAdd, Int.reduceToNat, Int.reducePow, decide_eq_true_eq, if_true, if_false, ite_true, ite_false, true_and, and_true, not_false_eq_true, not_true_eq_false, false_and, and_false, Bool.false_eq_true, Bool.true_eq_false, Bool.not_true, Bool.not_false, Fz.cutD_map, Fz.ints_int, List.flatten_cons, List.flatten_nil, Nat.add_assoc, Fz.LINE, Fz.b62, and_assoc, List.all_cons, List.all_nil, Nat.le_refl, Option.map_some, List.cons_beq_cons, Nat.reduceBEq, Nat.reduceBNe, Bool.and_true, Bool.true_and, Bool.false_and, Bool.and_false, beq_self_eq_true, Bool.or_true, Bool.true_or, Bool.or_false, Bool.false_or, Fz.bls_map, List.length_append, List.length_map, List.length_take, List.length_drop, List.length_reverse, List.length_replicate, List.length_range, List.isEmpty_cons, List.isEmpty_nil, Int.reduceNeg, Int.reduceMul, Int.reduceSub, Int.reduceLT, Int.reduceLE, Int.reduceBEq, Int.reduceBNe, Int.reduceNe, Int.reduceEq, decide_true, decide_false, id, List.getElem?_nil, beq_iff_eq, bne_iff_ne, ne_eq, Bool.not_eq_true', Bool.and_eq_true, Bool.or_eq_true, beq_eq_false_iff_ne, Bool.not_eq_false', decide_eq_false_iff_not, Int.not_lt, Int.not_le]
        exact ⟨hacc.snoc, _, _, _, rfl⟩
      · rintro acc γ ⟨⟨bs, hb, ha⟩, a, b, c, rfl⟩
        simp -implicitDefEqProofs only [Fz.x_ok, Fz.x_stuck, Fz.x_exc, Fz.x_ite, Fz.x_bind, Fz.x_fl, Fz.x_fl0, Fz.x_fite, Fz.x_nx, Fz.x_rt, Fz.x_fst, Fz.x_opt, Fz.x_nil, Fz.x_seq, Fz.x_expr, Fz.x_ret, Fz.x_retN, Fz.x_brk, Fz.x_cnt, Fz.x_qstuck, Fz.x_if, Fz.x_asg, Fz.x_tg, Fz.x_tgn, Fz.x_asgO, Fz.x_co, Fz.x_par2, Fz.x_par3, Fz.x_panil, Fz.x_paE, Fz.x_paF, Fz.x_parO2, Fz.x_parO3, Fz.x_p2, Fz.x_p3, Fz.x_set, Fz.x_setQ, Fz.x_wp, Fz.x_pre, Fz.x_wipe0, Fz.x_wipeS, Fz.x_tnm, Fz.x_tsnil, Fz.x_tscons, Fz.x_ttp, Fz.x_ttl, Fz.x_ttlT, Fz.x_tsb, Fz.x_var, Fz.x_slV, Fz.x_slO, Fz.x_pk, Fz.x_pkV, Fz.x_pkO, Fz.x_c, Fz.x_1, Fz.x_2, Fz.x_2k, Fz.x_n, Fz.x_n1, Fz.x_eif, Fz.x_and, Fz.x_or, Fz.x_not, Fz.x_ch, Fz.x_sl, Fz.x_slL, Fz.x_slk, Fz.x_onone, Fz.x_osome, Fz.x_inO, Fz.x_m, Fz.x_app, Fz.x_ow, Fz.x_anil, Fz.x_acons, Fz.x_astar, Fz.x_aapp, Fz.x_tru, Fz.x_tbl, Fz.x_tnot, Fz.x_tand, Fz.x_tor, Fz.x_tyes, Fz.x_blO, Fz.x_ubl, Fz.x_uint, Fz.x_unon, Fz.x_utup, Fz.x_ulsv, Fz.x_call, Fz.x_oc, Fz.x_io, Fz.x_put, Fz.x_perm0, Fz.x_def, Fz.x_defF, Fz.x_outs0, Fz.x_outsT, Fz.x_outsF, Fz.x_for, Fz.x_iof, Fz.x_ien, Fz.x_iN, Fz.x_srcT, Fz.x_srcF, Fz.x_srcL, Fz.x_srcS, Fz.x_zip, Fz.x_zipT, Fz.x_en, Fz.x_lc, Fz.x_rest0, Fz.x_restS, Fz.x_rsV, Fz.x_rsN, Fz.x_rsO, Fz.x_some, Fz.x_map, Fz.x_obind, Fz.x_mul, Fz.x_sub, Fz.x_div, Fz.x_mod, Fz.x_pow, Fz.x_shl, Fz.x_shr, Fz.x_andI, Fz.x_cmp, Fz.x_neg, Fz.x_addI, Fz.x_addS, Fz.x_addT, Fz.x_addL, Fz.x_addLL, Fz.x_mulAI, Fz.x_mulAC, Fz.x_mulAL, Fz.x_mulLL, Fz.x_tup, Fz.x_lst, Fz.x_abs, Fz.x_max2, Fz.x_min2, Fz.x_gcd, Fz.x_intI, Fz.x_intB, Fz.x_dm, Fz.x_lenS, Fz.x_lenT, Fz.x_lenF, Fz.x_lenL, Fz.x_ixT, Fz.x_ixF, Fz.x_ixL, Fz.x_ixS, Fz.x_slT, Fz.x_slF, Fz.x_slLs, Fz.x_slS, Fz.x_slLF, Fz.x_slLL, Fz.x_revS, Fz.x_revL, Fz.x_tupleT, Fz.x_tupleF, Fz.x_tupleL, Fz.x_listT, Fz.x_listF, Fz.x_listL, Fz.x_sumL, Fz.x_sumT, Fz.x_sumF, Fz.x_all, Fz.x_any, Fz.x_r1, Fz.x_r2, Fz.x_r3, Fz.x_lr, Fz.x_join, Fz.x_tyS, Fz.x_tyL, Fz.x_eqQ, Fz.x_eqS, Fz.x_neS, Fz.x_eqI, Fz.x_neI, Fz.x_eqB, Fz.x_neB, Fz.x_eqT, Fz.x_neT, Fz.x_eqL, Fz.x_neL, Fz.x_pyI, Fz.x_pyS, Fz.x_pyB, Fz.x_pyN, Fz.x_pyT, Fz.x_pyF, Fz.x_pyL, Fz.x_mp0, Fz.x_mpC, Fz.x_mpO, Fz.x_omap, Fz.x_repr, Fz.x_rp, Fz.x_pyfr, Fz.x_mpfr, Fz.x_mpint, Fz.x_isN, Fz.x_isI, Fz.x_isS, Fz.x_isT, Fz.x_isL, Fz.x_isB, Fz.x_isBB, Fz.x_isfr, Fz.x_inC, Fz.x_ninC, Fz.x_isi1, Fz.x_isi2, Fz.x_isi3, Fz.x_isi4, Fz.x_isi5, Fz.x_isi6, Fz.x_isi7, Fz.x_isi8, Fz.x_isi9, Fz.x_isi10, Fz.x_isi11, Fz.x_isi12, Fz.x_isi13, Fz.x_isi14, Fz.x_isi15, Fz.x_isi16, Fz.x_isi17, Fz.x_isi18, Fz.x_isi19, Fz.x_isi20, Fz.x_ttpf, Fz.x_ixfr0, Fz.x_ixfr1, Fz.x_lenfr, Fz.x_itfr, Fz.x_itT, Fz.x_itL, Fz.x_srcfr, Fz.x_eqfr, Fz.x_nefr, Fz.x_ufr, Fz.x_ll, Fz.x_calll, Fz.x_ienA, Fz.x_enA, Fz.x_enT, Fz.x_rvT, Fz.x_rvS, Fz.x_rvL, Fz.x_rvF, Fz.x_lcm, Fz.if_false', Fz.if_true', Fz.optQ_some, Fz.atI_0, Fz.atI_1, Fz.atI_n, Fz.ixN_0, Fz.ixN_1, Fz.ixN_n, List.set_cons_succ, List.set_cons_zero, List.getElem?_cons_succ, List.getElem?_cons_zero, List.length_cons, List.length_nil, List.map_cons, List.map_nil, List.replicate_succ, List.replicate_zero, List.cons_append, List.nil_append, List.append_assoc, List.append_nil, Fz.permL, List.filterMap_cons, List.filterMap_nil, List.length_set, List.set_set, Nat.reduceAdd, Nat.reduceLT, Nat.reduceLeDiff, Nat.reduceSub, Nat.reduceEqDiff, Int.reduceAdd, Int.reduceToNat, Int.reducePow, decide_eq_true_eq, if_true, if_false, ite_true, ite_false, true_and, and_true, not_false_eq_true, not_true_eq_false, false_and, and_false, Bool.false_eq_true, Bool.true_eq_false, Bool.not_true, Bool.not_false, Fz.cutD_map, Fz.ints_int, List.flatten_cons, List.flatten_nil, Nat.add_assoc, Fz.LINE, Fz.b62, and_assoc, List.all_cons, List.all_nil, Nat.le_refl, Option.map_some, List.cons_beq_cons, Nat.reduceBEq, Nat.reduceBNe, Bool.and_true, Bool.true_and, Bool.false_and, Bool.and_false, beq_self_eq_true, Bool.or_true, Bool.true_or, Bool.or_false, Bool.false_or, Fz.bls_map, List.length_append, List.length_map, List.length_take, List.length_drop, List.length_reverse, List.length_replicate, List.length_range, List.isEmpty_cons, List.isEmpty_nil, Int.reduceNeg, Int.reduceMul, Int.reduceSub, Int.reduceLT, Int.reduceLE, Int.reduceBEq, Int.reduceBNe, Int.reduceNe, Int.reduceEq, decide_true, decide_false, id, List.getElem?_nil, beq_iff_eq, bne_iff_ne, ne_eq, Bool.not_eq_true', Bool.and_eq_true, Bool.or_eq_true, beq_eq_false_iff_ne, Bool.not_eq_false', decide_eq_false_iff_not, Int.not_lt, Int.not_le, hb, ha]
        exact ⟨(), trivial⟩
    · intro _ _
      simp -implicitDefEqProofs only [Fz.x_ok, Fz.x_stuck, Fz.x_exc, Fz.x_ite, Fz.x_bind, Fz.x_fl, Fz.x_fl0, Fz.x_fite, Fz.x_nx, Fz.x_rt, Fz.x_fst, Fz.x_opt, Fz.x_nil, Fz.x_seq, Fz.x_expr, Fz.x_ret, Fz.x_retN, Fz.x_brk, Fz.x_cnt, Fz.x_qstuck, Fz.x_if, Fz.x_asg, Fz.x_tg, Fz.x_tgn, Fz.x_asgO, Fz.x_co, Fz.x_par2, Fz.x_par3, Fz.x_panil, Fz.x_paE, Fz.x_paF, Fz.x_parO2, Fz.x_parO3, Fz.x_p2, Fz.x_p3, Fz.x_set, Fz.x_setQ, Fz.x_wp, Fz.x_pre, Fz.x_wipe0, Fz.x_wipeS, Fz.x_tnm, Fz.x_tsnil, Fz.x_tscons, Fz.x_ttp, Fz.x_ttl, Fz.x_ttlT, Fz.x_tsb, Fz.x_var, Fz.x_slV, Fz.x_slO, Fz.x_pk, Fz.x_pkV, Fz.x_pkO, Fz.x_c, Fz.x_1, Fz.x_2, Fz.x_2k, Fz.x_n, Fz.x_n1, Fz.x_eif, Fz.x_and, Fz.x_or, Fz.x_not, Fz.x_ch, Fz.x_sl, Fz.x_slL, Fz.x_slk, Fz.x_onone, Fz.x_osome, Fz.x_inO, Fz.x_m, Fz.x_app, Fz.x_ow, Fz.x_anil, Fz.x_acons, Fz.x_astar, Fz.x_aapp, Fz.x_tru, Fz.x_tbl, Fz.x_tnot, Fz.x_tand, Fz.x_tor, Fz.x_tyes, Fz.x_blO, Fz.x_ubl, Fz.x_uint, Fz.x_unon, Fz.x_utup, Fz.x_ulsv, Fz.x_call, Fz.x_oc, Fz.x_io, Fz.x_put, Fz.x_perm0, Fz.x_def, Fz.x_defF, Fz.x_outs0, Fz.x_outsT, Fz.x_outsF, Fz.x_for, Fz.x_iof, Fz.x_ien, Fz.x_iN, Fz.x_srcT, Fz.x_srcF, Fz.x_srcL, Fz.x_srcS, Fz.x_zip, Fz.x_zipT, Fz.x_en, Fz.x_lc, Fz.x_rest0, Fz.x_restS, Fz.x_rsV, Fz.x_rsN, Fz.x_rsO, Fz.x_some, Fz.x_map, Fz.x_obind, Fz.x_mul, Fz.x_sub, Fz.x_div, Fz.x_mod, Fz.x_pow, Fz.x_shl, Fz.x_shr, Fz.x_andI, Fz.x_cmp, Fz.x_neg, Fz.x_addI, Fz.x_addS, Fz.x_addT, Fz.x_addL, Fz.x_addLL, Fz.x_mulAI, Fz.x_mulAC, Fz.x_mulAL, Fz.x_mulLL, Fz.x_tup, Fz.x_lst, Fz.x_abs, Fz.x_max2, Fz.x_min2, Fz.x_gcd, Fz.x_intI, Fz.x_intB, Fz.x_dm, Fz.x_lenS, Fz.x_lenT, Fz.x_lenF, Fz.x_lenL, Fz.x_ixT, Fz.x_ixF, Fz.x_ixL, Fz.x_ixS, Fz.x_slT, Fz.x_slF, Fz.x_slLs, Fz.x_slS, Fz.x_slLF, Fz.x_slLL, Fz.x_revS, Fz.x_revL, Fz.x_tupleT, Fz.x_tupleF, Fz.x_tupleL, Fz.x_listT, Fz.x_listF, Fz.x_listL, Fz.x_sumL, Fz.x_sumT, Fz.x_sumF, Fz.x_all, Fz.x_any, Fz.x_r1, Fz.x_r2, Fz.x_r3, Fz.x_lr, Fz.x_join, Fz.x_tyS, Fz.x_tyL, Fz.x_eqQ, Fz.x_eqS, Fz.x_neS, Fz.x_eqI, Fz.x_neI, Fz.x_eqB, Fz.x_neB, Fz.x_eqT, Fz.x_neT, Fz.x_eqL, Fz.x_neL, Fz.x_pyI, Fz.x_pyS, Fz.x_pyB, Fz.x_pyN, Fz.x_pyT, Fz.x_pyF, Fz.x_pyL, Fz.x_mp0, Fz.x_mpC, Fz.x_mpO, Fz.x_omap, Fz.x_repr, Fz.x_rp, Fz.x_pyfr, Fz.x_mpfr, Fz.x_mpint, Fz.x_isN, Fz.x_isI, Fz.x_isS, Fz.x_isT, Fz.x_isL, Fz.x_isB, Fz.x_isBB, Fz.x_isfr, Fz.x_inC, Fz.x_ninC, Fz.x_isi1, Fz.x_isi2, Fz.x_isi3, Fz.x_isi4, Fz.x_isi5, Fz.x_isi6, Fz.x_isi7, Fz.x_isi8, Fz.x_isi9, Fz.x_isi10, Fz.x_isi11, Fz.x_isi12, Fz.x_isi13, Fz.x_isi14, Fz.x_isi15, Fz.x_isi16, Fz.x_isi17, Fz.x_isi18, Fz.x_isi19, Fz.x_isi20, Fz.x_ttpf, Fz.x_ixfr0, Fz.x_ixfr1, Fz.x_lenfr, Fz.x_itfr, Fz.x_itT, Fz.x_itL, Fz.x_srcfr, Fz.x_eqfr, Fz.x_nefr, Fz.x_ufr, Fz.x_ll, Fz.x_calll, Fz.x_ienA, Fz.x_enA, Fz.x_enT, Fz.x_rvT, Fz.x_rvS, Fz.x_rvL, Fz.x_rvF, Fz.x_lcm, Fz.if_false', Fz.if_true', Fz.optQ_some, Fz.atI_0, Fz.atI_1, Fz.atI_n, Fz.ixN_0, Fz.ixN_1, Fz.ixN_n, List.set_cons_succ, List.set_cons_zero, List.getElem?_cons_succ, List.getElem?_cons_zero, List.length_cons, List.length_nil, List.map_cons, List.map_nil, List.replicate_succ, List.replicate_zero, List.cons_append, List.nil_append, List.append_assoc, List.append_nil, Fz.permL, List.filterMap_cons, List.filterMap_nil, List.length_set, List.set_set, Nat.reduceAdd, Nat.reduceLT, Nat.reduceLeDiff, Nat.reduceSub, Nat.reduceEqDiff, Int.reduceAdd, Int.reduceToNat, Int.reducePow, decide_eq_true_eq, if_true, if_false, ite_true, ite_false, true_and, and_true, not_false_eq_true, not_true_eq_false, false_and, and_false, Bool.false_eq_true, Bool.true_eq_false, Bool.not_true, Bool.not_false, Fz.cutD_map, Fz.ints_int, List.flatten_cons, List.flatten_nil, Nat.add_assoc, Fz.LINE, Fz.b62, and_assoc, List.all_cons, List.all_nil, Nat.le_refl, Option.map_some, List.cons_beq_cons, Nat.reduceBEq, Nat.reduceBNe, Bool.and_true, Bool.true_and, Bool.false_and, Bool.and_false, beq_self_eq_true, Bool.or_true, Bool.true_or, Bool.or_false, Bool.false_or, Fz.bls_map, List.length_append, List.length_map, List.length_take, List.length_drop, List.length_reverse, List.length_replicate, List.length_range, List.isEmpty_cons, List.isEmpty_nil, Int.reduceNeg, Int.reduceMul, Int.reduceSub, Int.reduceLT, Int.reduceLE, Int.reduceBEq, Int.reduceBNe, Int.reduceNe, Int.reduceEq, decide_true, decide_false, id, List.getElem?_nil, beq_iff_eq, bne_iff_ne, ne_eq, Bool.not_eq_true', Bool.and_eq_true, Bool.or_eq_true, beq_eq_false_iff_ne, Bool.not_eq_false', decide_eq_false_iff_not, Int.not_lt, Int.not_le]
  obtain ⟨d, o, e, rfl⟩ := gsat_ex h
  exact ⟨o, e⟩
end Lw

namespace Lw
open PySem PySem.Spec PyProof.Rows L2 Fz
def topS (i : Nat) : Stmt := PySem.Challenge.pw_fractiontrees_k71_whole_trains.main.body.getD i (.Pass ⟨0, 0, 0, 0⟩)
/-! ### what the top has written -/
structure Tx (K : PySem.W.Frag) (mg : Str → Option Value) : Prop where
  n_abs : mg "abs" = none
  n_all : mg "all" = none
  n_bool : mg "bool" = none
  n_divmod : mg "divmod" = none
  n_enumerate : mg "enumerate" = none
  n_int : mg "int" = none
  n_isinstance : mg "isinstance" = none
  n_len : mg "len" = none
  n_max : mg "max" = none
  n_min : mg "min" = none
  n_range : mg "range" = none
  n_repr : mg "repr" = none
  n_tuple : mg "tuple" = none
  i_gcd : mg "gcd" = some (.builtin "math.gcd")
  i_lcm : mg "lcm" = some (.builtin "math.lcm")
  k_LEAST_TEETH : KD ⟨K, mg⟩ "LEAST_TEETH" k_LEAST_TEETH
  k_MOST_TEETH : KD ⟨K, mg⟩ "MOST_TEETH" k_MOST_TEETH
  k_MOST_WHEELS : KD ⟨K, mg⟩ "MOST_WHEELS" k_MOST_WHEELS
  a_is_whole : At K mg "is_whole" "is_whole" (topS 6) []
  a_is_row : At K mg "is_row" "is_row" (topS 8) []
  a_lowest : At K mg "lowest" "lowest" (topS 10) []
  a_back_by : At K mg "back_by" "back_by" (topS 16) []
  a__law_bag : At K mg "_law_bag" "_law_bag" (topS 24) []
  a__law_take : At K mg "_law_take" "_law_take" (topS 25) []
  a__law_common : At K mg "_law_common" "_law_common" (topS 26) []
  a_is_between : At K mg "is_between" "is_between" (topS 7) []
  a_train_by : At K mg "train_by" "train_by" (topS 15) []
  a__law_lowest : At K mg "_law_lowest" "_law_lowest" (topS 27) []
  a__law_turns_back : At K mg "_law_turns_back" "_law_turns_back" (topS 28) []
  a_check_teeth : At K mg "check_teeth" "check_teeth" (topS 19) []
  a_first_wrong : At K mg "first_wrong" "first_wrong" (topS 9) []
  a_is_hunting : At K mg "is_hunting" "is_hunting" (topS 22) []
  a_wrong_wheel : At K mg "wrong_wheel" "wrong_wheel" (topS 17) []
  a_check_train : At K mg "check_train" "check_train" (topS 18) []
  a_train : At K mg "train" "train" (topS 20) []
  a_turns_back : At K mg "turns_back" "turns_back" (topS 21) []
  a__law_right : At K mg "_law_right" "_law_right" (topS 29) []
  a_law : At K mg "law" "law" (topS 30) []
  t_wrong_wheel : ∃ P, TabAt ⟨K, mg⟩ "wrong_wheel" P
section
variable {P : Program} {w : World} {K : PySem.W.Frag} {mg : Str → Option Value} {base : Heap}
theorem sc_is_whole : FnScope ["value"] ["value"] (defScope (topS 6)) := ⟨rfl, rfl, rfl, by decide +kernel, rfl, by decide +kernel, by decide +kernel⟩
theorem has_is_whole (T : Tx K mg)  : Has P w K mg base 1 "is_whole" "is_whole" (topS 6) [] ["value"] F_is_whole := by
  refine has_of (k := 0) T.a_is_whole sc_is_whole fun f cdv A outer s H E gd hr => ?_
  have nd := sc_is_whole.nd
  have hu := hr.units
  have tk := takes_of (X := cxOf (L2.CX P w) P w K mg base ["value"] "is_whole" (defScope (topS 6)) f cdv A outer s H E) rfl rfl rfl rfl
  have hp := passes_of (X := cxOf (L2.CX P w) P w K mg base ["value"] "is_whole" (defScope (topS 6)) f cdv A outer s H E) rfl
  exact (fss_one (fs_ret (fe_and (fe_isi T.n_isinstance T.n_int PyProof.Rows.boot_int (fe_var 0)) (fe_one (fe_not (fe_isi T.n_isinstance T.n_bool PyProof.Rows.boot_bool (fe_var 0)))))))
theorem sc_is_row : FnScope ["value", "least", "most"] ["value", "least", "most"] (defScope (topS 8)) := ⟨rfl, rfl, rfl, by decide +kernel, rfl, by decide +kernel, by decide +kernel⟩
theorem has_is_row (T : Tx K mg)  : Has P w K mg base 1 "is_row" "is_row" (topS 8) [] ["value", "least", "most"] F_is_row := by
  refine has_of (k := 0) T.a_is_row sc_is_row fun f cdv A outer s H E gd hr => ?_
  have nd := sc_is_row.nd
  have hu := hr.units
  have tk := takes_of (X := cxOf (L2.CX P w) P w K mg base ["value", "least", "most"] "is_row" (defScope (topS 8)) f cdv A outer s H E) rfl rfl rfl rfl
  have hp := passes_of (X := cxOf (L2.CX P w) P w K mg base ["value", "least", "most"] "is_row" (defScope (topS 8)) f cdv A outer s H E) rfl
  exact (fss_one (fs_ret (fe_and (fe_isi T.n_isinstance T.n_tuple PyProof.Rows.boot_tuple (fe_var 0)) (fe_one (fe_chain op_le op_le (vb_cmp _) (vb_cmp _) (fe_var 1) (fe_callB call_len v_len T.n_len PySem.boot_len (fa_cons (fe_var 0) fa_nil)) (fe_var 2))))))
theorem sc_lowest : FnScope ["over", "under", "common"] ["over", "under"] (defScope (topS 10)) := ⟨rfl, rfl, rfl, by decide +kernel, rfl, by decide +kernel, by decide +kernel⟩
theorem has_lowest (T : Tx K mg)  : Has P w K mg base 1 "lowest" "lowest" (topS 10) [] ["over", "under"] F_lowest := by
  refine has_of (k := 0) T.a_lowest sc_lowest fun f cdv A outer s H E gd hr => ?_
  have nd := sc_lowest.nd
  have hu := hr.units
  have tk := takes_of (X := cxOf (L2.CX P w) P w K mg base ["over", "under", "common"] "lowest" (defScope (topS 10)) f cdv A outer s H E) rfl rfl rfl rfl
  have hp := passes_of (X := cxOf (L2.CX P w) P w K mg base ["over", "under", "common"] "lowest" (defScope (topS 10)) f cdv A outer s H E) rfl
  exact (fss_cons (fs_asg (ws := [2]) (fe_if (ft_cmp op_gt (vb_cmp _).v2 (fe_var 1) fe_int (nomark _)) (fe_callF cr_gcd v_gcd T.i_gcd (fa_cons (fe_var 0) (fa_cons (fe_var 1) fa_nil))) (fe_un un_neg v_neg (fe_callF cr_gcd v_gcd T.i_gcd (fa_cons (fe_var 0) (fa_cons (fe_var 1) fa_nil))))) (fg_name (ws := [2]) (i := 2) nd))
    (fss_one (fs_ret (fe_tup (fa_cons (fe_op op_divB v_div (fe_var 0) (fe_var 2)) (fa_cons (fe_op op_divB v_div (fe_var 1) (fe_var 2)) fa_nil))))))
theorem sc_back_by : FnScope ["row", "told", "teeth"] ["row"] (defScope (topS 16)) := ⟨rfl, rfl, rfl, by decide +kernel, rfl, by decide +kernel, by decide +kernel⟩
theorem has_back_by (T : Tx K mg)  : Has P w K mg base 1 "back_by" "back_by" (topS 16) [] ["row"] F_back_by := by
  refine has_of (k := 0) T.a_back_by sc_back_by fun f cdv A outer s H E gd hr => ?_
  have nd := sc_back_by.nd
  have hu := hr.units
  have tk := takes_of (X := cxOf (L2.CX P w) P w K mg base ["row", "told", "teeth"] "back_by" (defScope (topS 16)) f cdv A outer s H E) rfl rfl rfl rfl
  have hp := passes_of (X := cxOf (L2.CX P w) P w K mg base ["row", "told", "teeth"] "back_by" (defScope (topS 16)) f cdv A outer s H E) rfl
  exact (fss_cons (fs_asg (ws := [1]) fe_int (fg_name (ws := [1]) (i := 1) nd))
    (fss_cons (fs_for hp rfl (fi_of (fe_var 0)) (fg_name (ws := [2]) (i := 2) nd) (fss_one (fs_asg (ws := [1]) (fe_callF Lcm.cr_lcm Lcm.v_lcm T.i_lcm (fa_cons (fe_var 1) (fa_cons (fe_var 2) fa_nil))) (fg_name (ws := [1]) (i := 1) nd))))
    (fss_one (fs_ret (fe_op op_divB v_div (fe_var 1) (fe_ix ix_seq v_ix (fe_var 0) fe_int (fun _ _ => rfl)))))))
theorem sc__law_bag : FnScope ["script", "lap", "stirred", "cell", "own"] ["script", "lap"] (defScope (topS 24)) := ⟨rfl, rfl, rfl, by decide +kernel, rfl, by decide +kernel, by decide +kernel⟩
theorem has__law_bag (T : Tx K mg)  : Has P w K mg base 1 "_law_bag" "_law_bag" (topS 24) [] ["script", "lap"] F__law_bag := by
  refine has_of (k := 0) T.a__law_bag sc__law_bag fun f cdv A outer s H E gd hr => ?_
  have nd := sc__law_bag.nd
  have hu := hr.units
  have tk := takes_of (X := cxOf (L2.CX P w) P w K mg base ["script", "lap", "stirred", "cell", "own"] "_law_bag" (defScope (topS 24)) f cdv A outer s H E) rfl rfl rfl rfl
  have hp := passes_of (X := cxOf (L2.CX P w) P w K mg base ["script", "lap", "stirred", "cell", "own"] "_law_bag" (defScope (topS 24)) f cdv A outer s H E) rfl
  exact (fss_cons (fs_asg (ws := [2]) (fe_op op_addAll v_add fe_int (fe_op op_mulB v_mulI fe_int (fe_var 1))) (fg_name (ws := [2]) (i := 2) nd))
    (fss_cons (fs_for hp rfl (fi_of (fe_sl (fe_var 0) fo_none (fo_some fe_int))) (fg_name (ws := [3]) (i := 3) nd) (fss_one (fs_asg (ws := [2]) (fe_op op_mod v_mod (fe_callTy call_int1 v_int T.n_int PyProof.Rows.boot_int (fa_cons (fe_op op_addAll v_add (fe_op op_addAll v_add (fe_op op_mulB v_mulI (fe_var 2) fe_int) (fe_op op_mod v_mod (fe_callTy call_int1 v_int T.n_int PyProof.Rows.boot_int (fa_cons (fe_var 3) fa_nil)) fe_int)) fe_int) fa_nil)) fe_int) (fg_name (ws := [2]) (i := 2) nd))))
    (fss_cons (fs_asg (ws := [4]) (fe_if (ft_cmp op_lt (vb_cmp _).v2 (fe_var 1) (fe_callB call_len v_len T.n_len PySem.boot_len (fa_cons (fe_var 0) fa_nil)) (nomark _)) (fe_callTy call_int1 v_int T.n_int PyProof.Rows.boot_int (fa_cons (fe_ix ix_seq v_ix (fe_var 0) (fe_var 1) (fun _ _ => rfl)) fa_nil)) fe_int) (fg_name (ws := [4]) (i := 4) nd))
    (fss_cons (fs_asg (ws := [2]) (fe_op op_mod v_mod (fe_callTy call_int1 v_int T.n_int PyProof.Rows.boot_int (fa_cons (fe_op op_addAll v_add (fe_op op_addAll v_add (fe_op op_mulB v_mulI (fe_var 2) fe_int) (fe_op op_mulB v_mulI (fe_op op_mod v_mod (fe_callTy call_int1 v_int T.n_int PyProof.Rows.boot_int (fa_cons (fe_var 4) fa_nil)) fe_int) fe_int)) fe_int) fa_nil)) fe_int) (fg_name (ws := [2]) (i := 2) nd))
    (fss_one (fs_ret (fe_lst (fa_cons (fe_if (FW.ft (fw_or (ft_cmp op_lt (vb_cmp _).v2 (fe_var 4) fe_int (nomark _)) (fw_or1 (ft_cmp op_ge (vb_cmp _).v2 (fe_var 4) (fe_op op_pow v_pow fe_int fe_int) (nomark _))))) (fe_callB call_abs v_abs T.n_abs PyProof.Rows.boot_abs (fa_cons (fe_var 4) fa_nil)) fe_int) (fa_cons (fe_var 2) (fa_cons fe_int fa_nil))))))))))
theorem sc__law_take : FnScope ["bag", "top", "digit"] ["bag", "top"] (defScope (topS 25)) := ⟨rfl, rfl, rfl, by decide +kernel, rfl, by decide +kernel, by decide +kernel⟩
theorem has__law_take (T : Tx K mg)  : Has P w K mg base 1 "_law_take" "_law_take" (topS 25) [] ["bag", "top"] F__law_take := by
  refine has_of (k := 0) T.a__law_take sc__law_take fun f cdv A outer s H E gd hr => ?_
  have nd := sc__law_take.nd
  have hu := hr.units
  have tk := takes_of (X := cxOf (L2.CX P w) P w K mg base ["bag", "top", "digit"] "_law_take" (defScope (topS 25)) f cdv A outer s H E) rfl rfl rfl rfl
  have hp := passes_of (X := cxOf (L2.CX P w) P w K mg base ["bag", "top", "digit"] "_law_take" (defScope (topS 25)) f cdv A outer s H E) rfl
  exact (fss_cons (fs_if (ft_cmp op_gt (vb_cmp _).v2 (fe_ix ix_seq v_ix (fe_var 0) fe_int (fun _ _ => rfl)) fe_int (nomark _)) (fss_cons (fs_asg (ws := [2]) (fe_callB call_divmod v_divmod T.n_divmod PyProof.Rows.boot_divmod (fa_cons (fe_ix ix_seq v_ix (fe_var 0) fe_int (fun _ _ => rfl)) (fa_cons (fe_var 1) fa_nil))) (fg_tup rfl (fgs_cons (fg_sub (W := fun c d _ H' => E c d H') (fe_var 0) fe_int) (fgs_cons (fg_name (ws := [2]) (i := 2) nd) fgs_nil))))
    (fss_one (fs_ret (fe_var 2)))) fss_nil)
    (fss_cons (fs_asg (ws := []) (fe_op op_addAll v_add (fe_ix ix_seq v_ix (fe_var 0) fe_int (fun _ _ => rfl)) fe_int) (fg_sub (W := fun c d _ H' => E c d H') (fe_var 0) fe_int))
    (fss_cons (fs_asg (ws := []) (fe_op op_mod v_mod (fe_callTy call_int1 v_int T.n_int PyProof.Rows.boot_int (fa_cons (fe_op op_addAll v_add (fe_op op_addAll v_add (fe_op op_mulB v_mulI (fe_ix ix_seq v_ix (fe_var 0) fe_int (fun _ _ => rfl)) fe_int) (fe_op op_mulB v_mulI fe_int (fe_ix ix_seq v_ix (fe_var 0) fe_int (fun _ _ => rfl)))) fe_int) fa_nil)) fe_int) (fg_sub (W := fun c d _ H' => E c d H') (fe_var 0) fe_int))
    (fss_one (fs_ret (fe_op op_mod v_mod (fe_callTy call_int1 v_int T.n_int PyProof.Rows.boot_int (fa_cons (fe_op op_divB v_div (fe_ix ix_seq v_ix (fe_var 0) fe_int (fun _ _ => rfl)) fe_int) fa_nil)) (fe_var 1)))))))
theorem sc__law_common : FnScope ["one", "two"] ["one", "two"] (defScope (topS 26)) := ⟨rfl, rfl, rfl, by decide +kernel, rfl, by decide +kernel, by decide +kernel⟩
theorem has__law_common (T : Tx K mg)  : Has P w K mg base 1 "_law_common" "_law_common" (topS 26) [] ["one", "two"] F__law_common := by
  refine has_of (k := 0) T.a__law_common sc__law_common fun f cdv A outer s H E gd hr => ?_
  have nd := sc__law_common.nd
  have hu := hr.units
  have tk := takes_of (X := cxOf (L2.CX P w) P w K mg base ["one", "two"] "_law_common" (defScope (topS 26)) f cdv A outer s H E) rfl rfl rfl rfl
  have hp := passes_of (X := cxOf (L2.CX P w) P w K mg base ["one", "two"] "_law_common" (defScope (topS 26)) f cdv A outer s H E) rfl
  exact (fss_cons (fs_par (i := 0) (j := 1) rfl nd rfl rfl (fa_cons (fe_callB call_abs v_abs T.n_abs PyProof.Rows.boot_abs (fa_cons (fe_var 0) fa_nil)) (fa_cons (fe_callB call_abs v_abs T.n_abs PyProof.Rows.boot_abs (fa_cons (fe_var 1) fa_nil)) fa_nil)))
    (fss_cons (fs_while hp (ft_cmp op_gt (vb_cmp _).v2 (fe_var 1) fe_int (nomark _)) (fss_one (fs_par (i := 0) (j := 1) rfl nd rfl rfl (fa_cons (fe_var 1) (fa_cons (fe_op op_mod v_mod (fe_callTy call_int1 v_int T.n_int PyProof.Rows.boot_int (fa_cons (fe_var 0) fa_nil)) (fe_var 1)) fa_nil)))))
    (fss_one (fs_ret (fe_var 0)))))
theorem sc_is_between : FnScope ["value", "least", "most"] ["value", "least", "most"] (defScope (topS 7)) := ⟨rfl, rfl, rfl, by decide +kernel, rfl, by decide +kernel, by decide +kernel⟩
theorem has_is_between (T : Tx K mg) (h_is_whole : Has P w K mg base 1 "is_whole" "is_whole" (topS 6) [] ["value"] F_is_whole) : Has P w K mg base 2 "is_between" "is_between" (topS 7) [] ["value", "least", "most"] F_is_between := by
  refine has_of (k := 1) T.a_is_between sc_is_between fun f cdv A outer s H E gd hr => ?_
  have nd := sc_is_between.nd
  have hu := hr.units
  have tk := takes_of (X := cxOf (L2.CX P w) P w K mg base ["value", "least", "most"] "is_between" (defScope (topS 7)) f cdv A outer s H E) rfl rfl rfl rfl
  have hp := passes_of (X := cxOf (L2.CX P w) P w K mg base ["value", "least", "most"] "is_between" (defScope (topS 7)) f cdv A outer s H E) rfl
  exact (fss_one (fs_ret (fe_and (fe_fn (n := 1) (ps := ["value"]) (pm := [0]) h_is_whole gd (hr.mono (show 1 ≤ 1 from by decide)) tk (fun _ _ _ _ _ _ us ws hu hw => match us, ws, hu, hw with | [_], [], _, _ => rfl) (fa_cons (fe_var 0) fa_nil)) (fe_one (fe_chain op_le op_le (vb_cmp _) (vb_cmp _) (fe_var 1) (fe_var 0) (fe_var 2))))))
theorem sc_train_by : FnScope ["row"] ["row"] (defScope (topS 15)) := ⟨rfl, rfl, rfl, by decide +kernel, rfl, by decide +kernel, by decide +kernel⟩
theorem has_train_by (T : Tx K mg) (h_lowest : Has P w K mg base 1 "lowest" "lowest" (topS 10) [] ["over", "under"] F_lowest) : Has P w K mg base 2 "train_by" "train_by" (topS 15) [] ["row"] F_train_by := by
  refine has_of (k := 1) T.a_train_by sc_train_by fun f cdv A outer s H E gd hr => ?_
  have nd := sc_train_by.nd
  have hu := hr.units
  have tk := takes_of (X := cxOf (L2.CX P w) P w K mg base ["row"] "train_by" (defScope (topS 15)) f cdv A outer s H E) rfl rfl rfl rfl
  have hp := passes_of (X := cxOf (L2.CX P w) P w K mg base ["row"] "train_by" (defScope (topS 15)) f cdv A outer s H E) rfl
  exact (fss_one (fs_ret (fe_tup (fa_cons (fe_fn (n := 2) (ps := ["over", "under"]) (pm := [0, 1]) h_lowest gd (hr.mono (show 1 ≤ 1 from by decide)) tk (fun _ _ _ _ _ _ us ws hu hw => match us, ws, hu, hw with | [_, _], [], _, _ => rfl) (fa_cons (fe_ix ix_seq v_ix (fe_var 0) fe_int (fun _ _ => rfl)) (fa_cons (fe_ix ix_seq v_ix (fe_var 0) (fe_un un_neg v_neg fe_int) (fun _ _ => rfl)) fa_nil))) (fa_cons (fe_cmp (op_eqAll hu) vb_eq.v2 (fe_op op_mod v_mod (fe_callB call_len v_len T.n_len PySem.boot_len (fa_cons (fe_var 0) fa_nil)) fe_int) fe_int (nomark _)) fa_nil)))))
theorem sc__law_lowest : FnScope ["top", "low", "part"] ["top", "low"] (defScope (topS 27)) := ⟨rfl, rfl, rfl, by decide +kernel, rfl, by decide +kernel, by decide +kernel⟩
theorem has__law_lowest (T : Tx K mg) (h__law_common : Has P w K mg base 1 "_law_common" "_law_common" (topS 26) [] ["one", "two"] F__law_common) : Has P w K mg base 2 "_law_lowest" "_law_lowest" (topS 27) [] ["top", "low"] F__law_lowest := by
  refine has_of (k := 1) T.a__law_lowest sc__law_lowest fun f cdv A outer s H E gd hr => ?_
  have nd := sc__law_lowest.nd
  have hu := hr.units
  have tk := takes_of (X := cxOf (L2.CX P w) P w K mg base ["top", "low", "part"] "_law_lowest" (defScope (topS 27)) f cdv A outer s H E) rfl rfl rfl rfl
  have hp := passes_of (X := cxOf (L2.CX P w) P w K mg base ["top", "low", "part"] "_law_lowest" (defScope (topS 27)) f cdv A outer s H E) rfl
  exact (fss_cons (fs_asg (ws := [2]) (fe_fn (n := 2) (ps := ["one", "two"]) (pm := [0, 1]) h__law_common gd (hr.mono (show 1 ≤ 1 from by decide)) tk (fun _ _ _ _ _ _ us ws hu hw => match us, ws, hu, hw with | [_, _], [], _, _ => rfl) (fa_cons (fe_var 0) (fa_cons (fe_var 1) fa_nil))) (fg_name (ws := [2]) (i := 2) nd))
    (fss_cons (fs_asg (ws := [2]) (fe_if (ft_cmp op_gt (vb_cmp _).v2 (fe_var 1) fe_int (nomark _)) (fe_var 2) (fe_op op_sub v_sub fe_int (fe_var 2))) (fg_name (ws := [2]) (i := 2) nd))
    (fss_one (fs_ret (fe_tup (fa_cons (fe_op op_divB v_div (fe_var 0) (fe_var 2)) (fa_cons (fe_op op_divB v_div (fe_var 1) (fe_var 2)) fa_nil)))))))
theorem sc__law_turns_back : FnScope ["row", "whole", "teeth"] ["row"] (defScope (topS 28)) := ⟨rfl, rfl, rfl, by decide +kernel, rfl, by decide +kernel, by decide +kernel⟩
theorem has__law_turns_back (T : Tx K mg) (h__law_common : Has P w K mg base 1 "_law_common" "_law_common" (topS 26) [] ["one", "two"] F__law_common) : Has P w K mg base 2 "_law_turns_back" "_law_turns_back" (topS 28) [] ["row"] F__law_turns_back := by
  refine has_of (k := 1) T.a__law_turns_back sc__law_turns_back fun f cdv A outer s H E gd hr => ?_
  have nd := sc__law_turns_back.nd
  have hu := hr.units
  have tk := takes_of (X := cxOf (L2.CX P w) P w K mg base ["row", "whole", "teeth"] "_law_turns_back" (defScope (topS 28)) f cdv A outer s H E) rfl rfl rfl rfl
  have hp := passes_of (X := cxOf (L2.CX P w) P w K mg base ["row", "whole", "teeth"] "_law_turns_back" (defScope (topS 28)) f cdv A outer s H E) rfl
  exact (fss_cons (fs_asg (ws := [1]) fe_int (fg_name (ws := [1]) (i := 1) nd))
    (fss_cons (fs_for hp rfl (fi_of (fe_var 0)) (fg_name (ws := [2]) (i := 2) nd) (fss_one (fs_asg (ws := [1]) (fe_op op_divB v_div (fe_op op_mulB v_mulI (fe_var 1) (fe_var 2)) (fe_fn (n := 2) (ps := ["one", "two"]) (pm := [0, 1]) h__law_common gd (hr.mono (show 1 ≤ 1 from by decide)) tk (fun _ _ _ _ _ _ us ws hu hw => match us, ws, hu, hw with | [_, _], [], _, _ => rfl) (fa_cons (fe_var 1) (fa_cons (fe_var 2) fa_nil)))) (fg_name (ws := [1]) (i := 1) nd))))
    (fss_one (fs_ret (fe_op op_divB v_div (fe_var 1) (fe_ix ix_seq v_ix (fe_var 0) fe_int (fun _ _ => rfl)))))))
theorem sc_check_teeth : FnScope ["one", "two", "value"] ["one", "two"] (defScope (topS 19)) := ⟨rfl, rfl, rfl, by decide +kernel, rfl, by decide +kernel, by decide +kernel⟩
theorem has_check_teeth (T : Tx K mg) (h_is_between : Has P w K mg base 2 "is_between" "is_between" (topS 7) [] ["value", "least", "most"] F_is_between) : Has P w K mg base 3 "check_teeth" "check_teeth" (topS 19) [] ["one", "two"] F_check_teeth := by
  refine has_of (k := 2) T.a_check_teeth sc_check_teeth fun f cdv A outer s H E gd hr => ?_
  have nd := sc_check_teeth.nd
  have hu := hr.units
  have tk := takes_of (X := cxOf (L2.CX P w) P w K mg base ["one", "two", "value"] "check_teeth" (defScope (topS 19)) f cdv A outer s H E) rfl rfl rfl rfl
  have hp := passes_of (X := cxOf (L2.CX P w) P w K mg base ["one", "two", "value"] "check_teeth" (defScope (topS 19)) f cdv A outer s H E) rfl
  exact (fss_one (fs_for hp rfl (fi_of (fe_tup (fa_cons (fe_var 0) (fa_cons (fe_var 1) fa_nil)))) (fg_name (ws := [2]) (i := 2) nd) (fss_one (fs_if (ft_not (ft_tru (fe_fn (n := 3) (ps := ["value", "least", "most"]) (pm := [0, 1, 2]) h_is_between gd (hr.mono (show 2 ≤ 2 from by decide)) tk (fun _ _ _ _ _ _ us ws hu hw => match us, ws, hu, hw with | [_, _, _], [], _, _ => rfl) (fa_cons (fe_var 2) (fa_cons (fe_kd T.k_LEAST_TEETH) (fa_cons (fe_kd T.k_MOST_TEETH) fa_nil)))))) (fss_one fs_never) fss_nil))))
theorem lam_wrong_wheel (T : Tx K mg) (h_is_between : Has P w K mg base 2 "is_between" "is_between" (topS 7) [] ["value", "least", "most"] F_is_between) : LamG P w K mg base 3 "wrong_wheel" 2 F_L_wrong_wheel := by
  refine lamg_at (ps := ["each", "ahead"]) (k := 2) T.a_wrong_wheel (by rfl) (NdefX.nscope_by (by decide +kernel)) (fun _ _ _ us h => match us, h with | [_, _], _ => rfl) fun A outer s H E f c' gd hr tk => ?_
  have hu := hr.units
  exact (fe_fn (n := 3) (ps := ["value", "least", "most"]) (pm := [0, 1, 2]) h_is_between gd (hr.mono (show 2 ≤ 2 from by decide)) tk (fun _ _ _ _ _ _ us ws hu hw => match us, ws, hu, hw with | [_, _, _], [], _, _ => rfl) (fa_cons (fe_var 0) (fa_cons (fe_kd T.k_LEAST_TEETH) (fa_cons (fe_kd T.k_MOST_TEETH) fa_nil))))
theorem sc_first_wrong : FnScope ["value", "is_right", "index", "each"] ["value", "is_right"] (defScope (topS 9)) := ⟨rfl, rfl, rfl, by decide +kernel, rfl, by decide +kernel, by decide +kernel⟩
theorem has_first_wrong (T : Tx K mg)  (hlam : LamAll P w K mg base 3 lt_lam) : Has P w K mg base 4 "first_wrong" "first_wrong" (topS 9) [] ["value", "is_right"] F_first_wrong := by
  refine has_of (k := 3) T.a_first_wrong sc_first_wrong fun f cdv A outer s H E gd hr => ?_
  have nd := sc_first_wrong.nd
  have hu := hr.units
  have tk := takes_of (X := cxOf (L2.CX P w) P w K mg base ["value", "is_right", "index", "each"] "first_wrong" (defScope (topS 9)) f cdv A outer s H E) rfl rfl rfl rfl
  have hp := passes_of (X := cxOf (L2.CX P w) P w K mg base ["value", "is_right", "index", "each"] "first_wrong" (defScope (topS 9)) f cdv A outer s H E) rfl
  exact (fss_cons (fs_for hp rfl (fi_enA T.n_enumerate (fa_cons (fe_var 0) fa_nil)) (fg_tup rfl (fgs_cons (fg_name (ws := [2, 3]) (i := 2) nd) (fgs_cons (fg_name (ws := [2, 3]) (i := 3) nd) fgs_nil))) (fss_one (fs_if (ft_not (ft_tru (fe_calllA hlam gd (hr.mono (show 3 ≤ 3 from by decide)) tk 1 (fa_cons (fe_var 3) (fa_cons (fe_sl (fe_var 0) fo_none (fo_some (fe_var 2))) fa_nil))))) (fss_one (fs_ret (fe_var 2))) fss_nil)))
    (fss_one (fs_ret fe_non)))
theorem sc_is_hunting : FnScope ["one", "two"] ["one", "two"] (defScope (topS 22)) := ⟨rfl, rfl, rfl, by decide +kernel, rfl, by decide +kernel, by decide +kernel⟩
theorem has_is_hunting (T : Tx K mg) (h_check_teeth : Has P w K mg base 3 "check_teeth" "check_teeth" (topS 19) [] ["one", "two"] F_check_teeth) : Has P w K mg base 4 "is_hunting" "is_hunting" (topS 22) [] ["one", "two"] F_is_hunting := by
  refine has_of (k := 3) T.a_is_hunting sc_is_hunting fun f cdv A outer s H E gd hr => ?_
  have nd := sc_is_hunting.nd
  have hu := hr.units
  have tk := takes_of (X := cxOf (L2.CX P w) P w K mg base ["one", "two"] "is_hunting" (defScope (topS 22)) f cdv A outer s H E) rfl rfl rfl rfl
  have hp := passes_of (X := cxOf (L2.CX P w) P w K mg base ["one", "two"] "is_hunting" (defScope (topS 22)) f cdv A outer s H E) rfl
  exact (fss_cons (fs_expr (fe_fn (n := 2) (ps := ["one", "two"]) (pm := [0, 1]) h_check_teeth gd (hr.mono (show 3 ≤ 3 from by decide)) tk (fun _ _ _ _ _ _ us ws hu hw => match us, ws, hu, hw with | [_, _], [], _, _ => rfl) (fa_cons (fe_var 0) (fa_cons (fe_var 1) fa_nil))))
    (fss_one (fs_ret (fe_cmp (op_eqAll hu) vb_eq.v2 (fe_callF cr_gcd v_gcd T.i_gcd (fa_cons (fe_var 0) (fa_cons (fe_var 1) fa_nil))) fe_int (nomark _)))))
theorem sc_wrong_wheel : FnScope ["value"] ["value"] (defScope (topS 17)) := ⟨rfl, rfl, rfl, by decide +kernel, rfl, by decide +kernel, by decide +kernel⟩
theorem has_wrong_wheel (T : Tx K mg) (h_first_wrong : Has P w K mg base 4 "first_wrong" "first_wrong" (topS 9) [] ["value", "is_right"] F_first_wrong) (B : BmG base mg) : Has P w K mg base 5 "wrong_wheel" "wrong_wheel" (topS 17) [] ["value"] F_wrong_wheel := by
  refine has_ofL (k := 4) T.a_wrong_wheel sc_wrong_wheel fun f oc od dV kV doc pm an cdv ct osl hm lk A outer s H E gd hr => ?_
  have nd := sc_wrong_wheel.nd
  have hu := hr.units
  have tk := takes_of (X := cxOf (L2.CX P w) P w K mg base ["value"] "wrong_wheel" (defScope (topS 17)) f cdv A outer s H E) rfl rfl rfl rfl
  have hp := passes_of (X := cxOf (L2.CX P w) P w K mg base ["value"] "wrong_wheel" (defScope (topS 17)) f cdv A outer s H E) rfl
  exact (fss_one (fs_ret (fe_fn (n := 2) (ps := ["value", "is_right"]) (pm := [0, 1]) h_first_wrong gd (hr.mono (show 4 ≤ 4 from by decide)) tk (fun _ _ _ _ _ _ us ws hu hw => match us, ws, hu, hw with | [_, _], [], _, _ => rfl) (fa_cons (fe_var 0) (fa_cons (fe_lam hm lk rfl rfl rfl rfl B T.t_wrong_wheel rfl (by decide)) fa_nil)))))
theorem sc_check_train : FnScope ["row", "wrong"] ["row"] (defScope (topS 18)) := ⟨rfl, rfl, rfl, by decide +kernel, rfl, by decide +kernel, by decide +kernel⟩
theorem has_check_train (T : Tx K mg) (h_is_row : Has P w K mg base 1 "is_row" "is_row" (topS 8) [] ["value", "least", "most"] F_is_row) (h_wrong_wheel : Has P w K mg base 5 "wrong_wheel" "wrong_wheel" (topS 17) [] ["value"] F_wrong_wheel) : Has P w K mg base 6 "check_train" "check_train" (topS 18) [] ["row"] F_check_train := by
  refine has_of (k := 5) T.a_check_train sc_check_train fun f cdv A outer s H E gd hr => ?_
  have nd := sc_check_train.nd
  have hu := hr.units
  have tk := takes_of (X := cxOf (L2.CX P w) P w K mg base ["row", "wrong"] "check_train" (defScope (topS 18)) f cdv A outer s H E) rfl rfl rfl rfl
  have hp := passes_of (X := cxOf (L2.CX P w) P w K mg base ["row", "wrong"] "check_train" (defScope (topS 18)) f cdv A outer s H E) rfl
  exact (fss_cons (fs_if (ft_not (ft_tru (fe_fn (n := 3) (ps := ["value", "least", "most"]) (pm := [0, 1, 2]) h_is_row gd (hr.mono (show 1 ≤ 5 from by decide)) tk (fun _ _ _ _ _ _ us ws hu hw => match us, ws, hu, hw with | [_, _, _], [], _, _ => rfl) (fa_cons (fe_var 0) (fa_cons fe_int (fa_cons (fe_kd T.k_MOST_WHEELS) fa_nil)))))) (fss_one fs_never) fss_nil)
    (fss_cons (fs_asg (ws := [1]) (fe_fn (n := 1) (ps := ["value"]) (pm := [0]) h_wrong_wheel gd (hr.mono (show 5 ≤ 5 from by decide)) tk (fun _ _ _ _ _ _ us ws hu hw => match us, ws, hu, hw with | [_], [], _, _ => rfl) (fa_cons (fe_var 0) fa_nil)) (fg_name (ws := [1]) (i := 1) nd))
    (fss_one (fs_if (ft_cmp op_isnot vb_isnot.v2 (fe_var 1) fe_non (nomark _)) (fss_one fs_never) fss_nil))))
theorem sc_train : FnScope ["row"] ["row"] (defScope (topS 20)) := ⟨rfl, rfl, rfl, by decide +kernel, rfl, by decide +kernel, by decide +kernel⟩
theorem has_train (T : Tx K mg) (h_check_train : Has P w K mg base 6 "check_train" "check_train" (topS 18) [] ["row"] F_check_train) (h_train_by : Has P w K mg base 2 "train_by" "train_by" (topS 15) [] ["row"] F_train_by) : Has P w K mg base 7 "train" "train" (topS 20) [] ["row"] F_train := by
  refine has_of (k := 6) T.a_train sc_train fun f cdv A outer s H E gd hr => ?_
  have nd := sc_train.nd
  have hu := hr.units
  have tk := takes_of (X := cxOf (L2.CX P w) P w K mg base ["row"] "train" (defScope (topS 20)) f cdv A outer s H E) rfl rfl rfl rfl
  have hp := passes_of (X := cxOf (L2.CX P w) P w K mg base ["row"] "train" (defScope (topS 20)) f cdv A outer s H E) rfl
  exact (fss_cons (fs_expr (fe_fn (n := 1) (ps := ["row"]) (pm := [0]) h_check_train gd (hr.mono (show 6 ≤ 6 from by decide)) tk (fun _ _ _ _ _ _ us ws hu hw => match us, ws, hu, hw with | [_], [], _, _ => rfl) (fa_cons (fe_var 0) fa_nil)))
    (fss_one (fs_ret (fe_fn (n := 1) (ps := ["row"]) (pm := [0]) h_train_by gd (hr.mono (show 2 ≤ 6 from by decide)) tk (fun _ _ _ _ _ _ us ws hu hw => match us, ws, hu, hw with | [_], [], _, _ => rfl) (fa_cons (fe_var 0) fa_nil)))))
theorem sc_turns_back : FnScope ["row"] ["row"] (defScope (topS 21)) := ⟨rfl, rfl, rfl, by decide +kernel, rfl, by decide +kernel, by decide +kernel⟩
theorem has_turns_back (T : Tx K mg) (h_check_train : Has P w K mg base 6 "check_train" "check_train" (topS 18) [] ["row"] F_check_train) (h_back_by : Has P w K mg base 1 "back_by" "back_by" (topS 16) [] ["row"] F_back_by) : Has P w K mg base 7 "turns_back" "turns_back" (topS 21) [] ["row"] F_turns_back := by
  refine has_of (k := 6) T.a_turns_back sc_turns_back fun f cdv A outer s H E gd hr => ?_
  have nd := sc_turns_back.nd
  have hu := hr.units
  have tk := takes_of (X := cxOf (L2.CX P w) P w K mg base ["row"] "turns_back" (defScope (topS 21)) f cdv A outer s H E) rfl rfl rfl rfl
  have hp := passes_of (X := cxOf (L2.CX P w) P w K mg base ["row"] "turns_back" (defScope (topS 21)) f cdv A outer s H E) rfl
  exact (fss_cons (fs_expr (fe_fn (n := 1) (ps := ["row"]) (pm := [0]) h_check_train gd (hr.mono (show 6 ≤ 6 from by decide)) tk (fun _ _ _ _ _ _ us ws hu hw => match us, ws, hu, hw with | [_], [], _, _ => rfl) (fa_cons (fe_var 0) fa_nil)))
    (fss_one (fs_ret (fe_fn (n := 1) (ps := ["row"]) (pm := [0]) h_back_by gd (hr.mono (show 1 ≤ 6 from by decide)) tk (fun _ _ _ _ _ _ us ws hu hw => match us, ws, hu, hw with | [_], [], _, _ => rfl) (fa_cons (fe_var 0) fa_nil)))))
theorem sc__law_right : FnScope ["bag", "row", "due", "many", "so", "one", "two", "turn", "teeth"] ["bag"] (defScope (topS 29)) := ⟨rfl, rfl, rfl, by decide +kernel, rfl, by decide +kernel, by decide +kernel⟩
theorem has__law_right (T : Tx K mg) (h__law_take : Has P w K mg base 1 "_law_take" "_law_take" (topS 25) [] ["bag", "top"] F__law_take) (h__law_lowest : Has P w K mg base 2 "_law_lowest" "_law_lowest" (topS 27) [] ["top", "low"] F__law_lowest) (h_train : Has P w K mg base 7 "train" "train" (topS 20) [] ["row"] F_train) (h__law_turns_back : Has P w K mg base 2 "_law_turns_back" "_law_turns_back" (topS 28) [] ["row"] F__law_turns_back) (h_turns_back : Has P w K mg base 7 "turns_back" "turns_back" (topS 21) [] ["row"] F_turns_back) (h__law_common : Has P w K mg base 1 "_law_common" "_law_common" (topS 26) [] ["one", "two"] F__law_common) (h_is_hunting : Has P w K mg base 4 "is_hunting" "is_hunting" (topS 22) [] ["one", "two"] F_is_hunting) : Has P w K mg base 8 "_law_right" "_law_right" (topS 29) [] ["bag"] F__law_right := by
  refine has_of (k := 7) T.a__law_right sc__law_right fun f cdv A outer s H E gd hr => ?_
  have nd := sc__law_right.nd
  have hu := hr.units
  have tk := takes_of (X := cxOf (L2.CX P w) P w K mg base ["bag", "row", "due", "many", "so", "one", "two", "turn", "teeth"] "_law_right" (defScope (topS 29)) f cdv A outer s H E) rfl rfl rfl rfl
  have hp := passes_of (X := cxOf (L2.CX P w) P w K mg base ["bag", "row", "due", "many", "so", "one", "two", "turn", "teeth"] "_law_right" (defScope (topS 29)) f cdv A outer s H E) rfl
  exact (fss_cons (fs_asg (ws := [1]) (fe_gc (fe_callTy call_tuple_of v_tuple T.n_tuple PyProof.Rows.boot_tuple (fa_cons (fe_lc (own := [("turn", 7)]) rfl nd (fi_range1 T.n_range (fa_cons (fe_op op_addAll v_add fe_int (fe_fn (n := 2) (ps := ["bag", "top"]) (pm := [0, 1]) h__law_take gd (hr.mono (show 1 ≤ 7 from by decide)) tk (fun _ _ _ _ _ _ us ws hu hw => match us, ws, hu, hw with | [_, _], [], _, _ => rfl) (fa_cons (fe_var 0) (fa_cons fe_int fa_nil)))) fa_nil)) (by rfl) (fun _ _ _ _ _ => (fg_name (ws := [7]) (i := 7) nd)) (fun _ _ _ _ _ => (fe_op op_addAll v_add fe_int (fe_fn (n := 2) (ps := ["bag", "top"]) (pm := [0, 1]) h__law_take gd (hr.mono (show 1 ≤ 7 from by decide)) takes0 (fun _ _ _ _ _ _ us ws hu hw => match us, ws, hu, hw with | [_, _], [], _, _ => rfl) (fa_cons (fe_var 0) (fa_cons fe_int fa_nil)))))) fa_nil))) (fg_name (ws := [1]) (i := 1) nd))
    (fss_cons (fs_asg (ws := [2]) (fe_tup (fa_cons (fe_fn (n := 2) (ps := ["top", "low"]) (pm := [0, 1]) h__law_lowest gd (hr.mono (show 2 ≤ 7 from by decide)) tk (fun _ _ _ _ _ _ us ws hu hw => match us, ws, hu, hw with | [_, _], [], _, _ => rfl) (fa_cons (fe_ix ix_seq v_ix (fe_var 1) fe_int (fun _ _ => rfl)) (fa_cons (fe_ix ix_seq v_ix (fe_var 1) (fe_un un_neg v_neg fe_int) (fun _ _ => rfl)) fa_nil))) (fa_cons (fe_cmp (op_eqAll hu) vb_eq.v2 (fe_op op_mod v_mod (fe_callTy call_int1 v_int T.n_int PyProof.Rows.boot_int (fa_cons (fe_callB call_len v_len T.n_len PySem.boot_len (fa_cons (fe_var 1) fa_nil)) fa_nil)) fe_int) fe_int (nomark _)) fa_nil))) (fg_name (ws := [2]) (i := 2) nd))
    (fss_cons (fs_if (FW.ft (fw_or (ft_cmp (op_neAll hu) vb_ne.v2 (fe_gc (fe_callB (call_repr gd (lt_line hu (by decide))) v_repr T.n_repr PyProof.Rows.boot_repr (fa_cons (fe_lst (fa_cons (fe_fn (n := 1) (ps := ["row"]) (pm := [0]) h_train gd (hr.mono (show 7 ≤ 7 from by decide)) tk (fun _ _ _ _ _ _ us ws hu hw => match us, ws, hu, hw with | [_], [], _, _ => rfl) (fa_cons (fe_var 1) fa_nil)) (fa_cons (fe_fnK0 (ks := ["row"]) (ps := ["row"]) (pm := [0]) h_train gd (hr.mono (show 7 ≤ 7 from by decide)) tk (fun _ _ _ _ _ _ us ws hu hw => match us, ws, hu, hw with | [], [_], _, _ => rfl) (fk_cons (fe_var 1) fk_nil)) fa_nil))) fa_nil))) (fe_gc (fe_callB (call_repr gd (lt_line hu (by decide))) v_repr T.n_repr PyProof.Rows.boot_repr (fa_cons (fe_lst (fa_cons (fe_var 2) (fa_cons (fe_var 2) fa_nil))) fa_nil))) (nomark _)) (fw_or1 (ft_cmp (op_neAll hu) vb_ne.v2 (fe_fn (n := 1) (ps := ["row"]) (pm := [0]) h_train gd (hr.mono (show 7 ≤ 7 from by decide)) tk (fun _ _ _ _ _ _ us ws hu hw => match us, ws, hu, hw with | [_], [], _, _ => rfl) (fa_cons (fe_revA (fe_var 1)) fa_nil)) (fe_tup (fa_cons (fe_revA (fe_ix ix_seq v_ix (fe_var 2) fe_int (fun _ _ => rfl))) (fa_cons (fe_ix ix_seq v_ix (fe_var 2) fe_int (fun _ _ => rfl)) fa_nil))) (nomark _))))) (fss_one (fs_ret fe_bl)) fss_nil)
    (fss_cons (fs_asg (ws := [3]) (fe_fn (n := 1) (ps := ["row"]) (pm := [0]) h__law_turns_back gd (hr.mono (show 2 ≤ 7 from by decide)) tk (fun _ _ _ _ _ _ us ws hu hw => match us, ws, hu, hw with | [_], [], _, _ => rfl) (fa_cons (fe_var 1) fa_nil)) (fg_name (ws := [3]) (i := 3) nd))
    (fss_cons (fs_if (ft_cmp (op_neAll hu) vb_ne.v2 (fe_gc (fe_callB (call_repr gd (lt_line hu (by decide))) v_repr T.n_repr PyProof.Rows.boot_repr (fa_cons (fe_lst (fa_cons (fe_fn (n := 1) (ps := ["row"]) (pm := [0]) h_turns_back gd (hr.mono (show 7 ≤ 7 from by decide)) tk (fun _ _ _ _ _ _ us ws hu hw => match us, ws, hu, hw with | [_], [], _, _ => rfl) (fa_cons (fe_var 1) fa_nil)) (fa_cons (fe_fnK0 (ks := ["row"]) (ps := ["row"]) (pm := [0]) h_turns_back gd (hr.mono (show 7 ≤ 7 from by decide)) tk (fun _ _ _ _ _ _ us ws hu hw => match us, ws, hu, hw with | [], [_], _, _ => rfl) (fk_cons (fe_var 1) fk_nil)) fa_nil))) fa_nil))) (fe_gc (fe_callB (call_repr gd (lt_line hu (by decide))) v_repr T.n_repr PyProof.Rows.boot_repr (fa_cons (fe_lst (fa_cons (fe_var 3) (fa_cons (fe_var 3) fa_nil))) fa_nil))) (nomark _)) (fss_one (fs_ret fe_bl)) fss_nil)
    (fss_cons (fs_if (ft_cmp (op_neAll hu) vb_ne.v2 (fe_lcIf (own := [("teeth", 8)]) rfl nd (fi_of (fe_var 1)) (by rfl) (fun _ _ _ _ _ => (fg_name (ws := [8]) (i := 8) nd)) (fun _ _ _ _ _ => (ft_cmp (op_neAll hu) vb_ne.v2 (fe_op op_mod v_mod (fe_callTy call_int1 v_int T.n_int PyProof.Rows.boot_int (fa_cons (fe_op op_mulB v_mulI (fe_var 3) (fe_ix ix_seq v_ix (fe_var 1) fe_int (fun _ _ => rfl))) fa_nil)) (fe_var 8)) fe_int (nomark _))) (fun _ _ _ _ _ => (fe_var 8))) (fe_lst fa_nil) (nomark _)) (fss_one (fs_ret fe_bl)) fss_nil)
    (fss_cons (fs_par (i := 5) (j := 6) rfl nd rfl rfl (fa_cons (fe_ix ix_seq v_ix (fe_var 1) fe_int (fun _ _ => rfl)) (fa_cons (fe_ix ix_seq v_ix (fe_var 1) fe_int (fun _ _ => rfl)) fa_nil)))
    (fss_cons (fs_asg (ws := [4]) (fe_cmp (op_eqAll hu) vb_eq.v2 (fe_fn (n := 2) (ps := ["one", "two"]) (pm := [0, 1]) h__law_common gd (hr.mono (show 1 ≤ 7 from by decide)) tk (fun _ _ _ _ _ _ us ws hu hw => match us, ws, hu, hw with | [_, _], [], _, _ => rfl) (fa_cons (fe_var 5) (fa_cons (fe_var 6) fa_nil))) fe_int (nomark _)) (fg_name (ws := [4]) (i := 4) nd))
    (fss_cons (fs_if (ft_cmp (op_neAll hu) vb_ne.v2 (fe_gc (fe_callB (call_repr gd (lt_line hu (by decide))) v_repr T.n_repr PyProof.Rows.boot_repr (fa_cons (fe_lst (fa_cons (fe_fn (n := 2) (ps := ["one", "two"]) (pm := [0, 1]) h_is_hunting gd (hr.mono (show 4 ≤ 7 from by decide)) tk (fun _ _ _ _ _ _ us ws hu hw => match us, ws, hu, hw with | [_, _], [], _, _ => rfl) (fa_cons (fe_var 5) (fa_cons (fe_var 6) fa_nil))) (fa_cons (fe_fnK0 (ks := ["two", "one"]) (ps := ["one", "two"]) (pm := [1, 0]) h_is_hunting gd (hr.mono (show 4 ≤ 7 from by decide)) tk (fun _ _ _ _ _ _ us ws hu hw => match us, ws, hu, hw with | [], [_, _], _, _ => rfl) (fk_cons (fe_var 6) (fk_cons (fe_var 5) fk_nil))) (fa_cons (fe_fn (n := 2) (ps := ["one", "two"]) (pm := [0, 1]) h_is_hunting gd (hr.mono (show 4 ≤ 7 from by decide)) tk (fun _ _ _ _ _ _ us ws hu hw => match us, ws, hu, hw with | [_, _], [], _, _ => rfl) (fa_cons (fe_var 6) (fa_cons (fe_var 5) fa_nil))) fa_nil)))) fa_nil))) (fe_callB (call_repr gd (lt_line hu (by decide))) v_repr T.n_repr PyProof.Rows.boot_repr (fa_cons (fe_op op_mulA v_mulA (fe_lst (fa_cons (fe_var 4) fa_nil)) fe_int) fa_nil)) (nomark _)) (fss_one (fs_ret fe_bl)) fss_nil)
    (fss_one (fs_ret (fe_and (fe_cmp (op_eqAll hu) vb_eq.v2 (fe_var 4) (fe_cmp (op_eqAll hu) vb_eq.v2 (fe_fn (n := 1) (ps := ["row"]) (pm := [0]) h_turns_back gd (hr.mono (show 7 ≤ 7 from by decide)) tk (fun _ _ _ _ _ _ us ws hu hw => match us, ws, hu, hw with | [_], [], _, _ => rfl) (fa_cons (fe_tup (fa_cons (fe_var 5) (fa_cons (fe_var 6) fa_nil))) fa_nil)) (fe_var 6) (nomark _)) (nomark _)) (fe_one (fe_cmp (op_eqAll hu) vb_eq.v2 (fe_op op_mulB v_mulI (fe_fn (n := 1) (ps := ["row"]) (pm := [0]) h_turns_back gd (hr.mono (show 7 ≤ 7 from by decide)) tk (fun _ _ _ _ _ _ us ws hu hw => match us, ws, hu, hw with | [_], [], _, _ => rfl) (fa_cons (fe_revA (fe_var 1)) fa_nil)) (fe_ix ix_seq v_ix (fe_var 1) (fe_un un_neg v_neg fe_int) (fun _ _ => rfl))) (fe_op op_mulB v_mulI (fe_var 3) (fe_ix ix_seq v_ix (fe_var 1) fe_int (fun _ _ => rfl))) (nomark _)))))))))))))))
theorem sc_law : FnScope ["script", "lap", "bag", "turn"] ["script"] (defScope (topS 30)) := ⟨rfl, rfl, rfl, by decide +kernel, rfl, by decide +kernel, by decide +kernel⟩
theorem has_law (T : Tx K mg) (h__law_bag : Has P w K mg base 1 "_law_bag" "_law_bag" (topS 24) [] ["script", "lap"] F__law_bag) (h__law_right : Has P w K mg base 8 "_law_right" "_law_right" (topS 29) [] ["bag"] F__law_right) : Has P w K mg base 9 "law" "law" (topS 30) [] ["script"] F_law := by
  refine has_of (k := 8) T.a_law sc_law fun f cdv A outer s H E gd hr => ?_
  have nd := sc_law.nd
  have hu := hr.units
  have tk := takes_of (X := cxOf (L2.CX P w) P w K mg base ["script", "lap", "bag", "turn"] "law" (defScope (topS 30)) f cdv A outer s H E) rfl rfl rfl rfl
  have hp := passes_of (X := cxOf (L2.CX P w) P w K mg base ["script", "lap", "bag", "turn"] "law" (defScope (topS 30)) f cdv A outer s H E) rfl
  exact (fss_cons (fs_for hp rfl (fi_range1 T.n_range (fa_cons (fe_callB (call_max2 rfl) v_max2 T.n_max PyProof.Rows.boot_max (fa_cons fe_int (fa_cons (fe_callB (call_min2 rfl) v_min2 T.n_min PyProof.Rows.boot_min (fa_cons (fe_callB call_len v_len T.n_len PySem.boot_len (fa_cons (fe_var 0) fa_nil)) (fa_cons fe_int fa_nil))) fa_nil))) fa_nil)) (fg_name (ws := [1]) (i := 1) nd) (fss_cons (fs_asg (ws := [2]) (fe_fn (n := 2) (ps := ["script", "lap"]) (pm := [0, 1]) h__law_bag gd (hr.mono (show 1 ≤ 8 from by decide)) tk (fun _ _ _ _ _ _ us ws hu hw => match us, ws, hu, hw with | [_, _], [], _, _ => rfl) (fa_cons (fe_var 0) (fa_cons (fe_var 1) fa_nil))) (fg_name (ws := [2]) (i := 2) nd))
    (fss_one (fs_if (ft_not (ft_tru (fe_gc (fe_callB (cr_all rfl) v_all T.n_all PyProof.Rows.boot_all (fa_cons (fe_lc (own := [("turn", 3)]) rfl nd (fi_range1 T.n_range (fa_cons fe_int fa_nil)) (by rfl) (fun _ _ _ _ _ => (fg_name (ws := [3]) (i := 3) nd)) (fun _ _ _ _ _ => (fe_fn (n := 1) (ps := ["bag"]) (pm := [0]) h__law_right gd (hr.mono (show 8 ≤ 8 from by decide)) takes0 (fun _ _ _ _ _ _ us ws hu hw => match us, ws, hu, hw with | [_], [], _, _ => rfl) (fa_cons (fe_var 2) fa_nil)))) fa_nil))))) (fss_one (fs_ret fe_bl)) fss_nil))))
    (fss_one (fs_ret fe_bl)))
/-- all of them -/
theorem all_has (T : Tx K mg) (B : BmG base mg) : Has P w K mg base 9 "law" "law" (topS 30) [] ["script"] F_law := by
  have h_is_whole : Has P w K mg base 1 "is_whole" "is_whole" (topS 6) [] ["value"] F_is_whole := has_is_whole T 
  have h_is_row : Has P w K mg base 1 "is_row" "is_row" (topS 8) [] ["value", "least", "most"] F_is_row := has_is_row T 
  have h_lowest : Has P w K mg base 1 "lowest" "lowest" (topS 10) [] ["over", "under"] F_lowest := has_lowest T 
  have h_back_by : Has P w K mg base 1 "back_by" "back_by" (topS 16) [] ["row"] F_back_by := has_back_by T 
  have h__law_bag : Has P w K mg base 1 "_law_bag" "_law_bag" (topS 24) [] ["script", "lap"] F__law_bag := has__law_bag T 
  have h__law_take : Has P w K mg base 1 "_law_take" "_law_take" (topS 25) [] ["bag", "top"] F__law_take := has__law_take T 
  have h__law_common : Has P w K mg base 1 "_law_common" "_law_common" (topS 26) [] ["one", "two"] F__law_common := has__law_common T 
  have h_is_between : Has P w K mg base 2 "is_between" "is_between" (topS 7) [] ["value", "least", "most"] F_is_between := has_is_between T h_is_whole
  have h_train_by : Has P w K mg base 2 "train_by" "train_by" (topS 15) [] ["row"] F_train_by := has_train_by T h_lowest
  have h__law_lowest : Has P w K mg base 2 "_law_lowest" "_law_lowest" (topS 27) [] ["top", "low"] F__law_lowest := has__law_lowest T h__law_common
  have h__law_turns_back : Has P w K mg base 2 "_law_turns_back" "_law_turns_back" (topS 28) [] ["row"] F__law_turns_back := has__law_turns_back T h__law_common
  have h_check_teeth : Has P w K mg base 3 "check_teeth" "check_teeth" (topS 19) [] ["one", "two"] F_check_teeth := has_check_teeth T h_is_between
  have l_wrong_wheel : LamG P w K mg base 3 "wrong_wheel" 2 F_L_wrong_wheel := lam_wrong_wheel T h_is_between
  have hlam : LamAll P w K mg base 3 lt_lam := (.cons l_wrong_wheel (by decide) .nil)
  have h_first_wrong : Has P w K mg base 4 "first_wrong" "first_wrong" (topS 9) [] ["value", "is_right"] F_first_wrong := has_first_wrong T  hlam
  have h_is_hunting : Has P w K mg base 4 "is_hunting" "is_hunting" (topS 22) [] ["one", "two"] F_is_hunting := has_is_hunting T h_check_teeth
  have h_wrong_wheel : Has P w K mg base 5 "wrong_wheel" "wrong_wheel" (topS 17) [] ["value"] F_wrong_wheel := has_wrong_wheel T h_first_wrong B
  have h_check_train : Has P w K mg base 6 "check_train" "check_train" (topS 18) [] ["row"] F_check_train := has_check_train T h_is_row h_wrong_wheel
  have h_train : Has P w K mg base 7 "train" "train" (topS 20) [] ["row"] F_train := has_train T h_check_train h_train_by
  have h_turns_back : Has P w K mg base 7 "turns_back" "turns_back" (topS 21) [] ["row"] F_turns_back := has_turns_back T h_check_train h_back_by
  have h__law_right : Has P w K mg base 8 "_law_right" "_law_right" (topS 29) [] ["bag"] F__law_right := has__law_right T h__law_take h__law_lowest h_train h__law_turns_back h_turns_back h__law_common h_is_hunting
  have h_law : Has P w K mg base 9 "law" "law" (topS 30) [] ["script"] F_law := has_law T h__law_bag h__law_right
  exact h_law
end
/-! ### the facts of the top -/
theorem tx_mk {K : PySem.W.Frag} {h : Heap} {mg : Str → Option Value} (X : K.In h) (G : h.Ns mainGlobals mg)
    {kt_LEAST_TEETH_1 : Tok}
    {kt_MOST_TEETH_1 : Tok}
    {kt_MOST_WHEELS_1 : Tok}
    {f_is_whole : Addr} {od_is_whole an_is_whole : Option Addr} {sl_is_whole : Array (Option Value)} {oc_is_whole kV_is_whole dc_is_whole pm_is_whole cd_is_whole ct_is_whole : Value}
    {f_is_row : Addr} {od_is_row an_is_row : Option Addr} {sl_is_row : Array (Option Value)} {oc_is_row kV_is_row dc_is_row pm_is_row cd_is_row ct_is_row : Value}
    {f_lowest : Addr} {od_lowest an_lowest : Option Addr} {sl_lowest : Array (Option Value)} {oc_lowest kV_lowest dc_lowest pm_lowest cd_lowest ct_lowest : Value}
    {f_back_by : Addr} {od_back_by an_back_by : Option Addr} {sl_back_by : Array (Option Value)} {oc_back_by kV_back_by dc_back_by pm_back_by cd_back_by ct_back_by : Value}
    {f__law_bag : Addr} {od__law_bag an__law_bag : Option Addr} {sl__law_bag : Array (Option Value)} {oc__law_bag kV__law_bag dc__law_bag pm__law_bag cd__law_bag ct__law_bag : Value}
    {f__law_take : Addr} {od__law_take an__law_take : Option Addr} {sl__law_take : Array (Option Value)} {oc__law_take kV__law_take dc__law_take pm__law_take cd__law_take ct__law_take : Value}
    {f__law_common : Addr} {od__law_common an__law_common : Option Addr} {sl__law_common : Array (Option Value)} {oc__law_common kV__law_common dc__law_common pm__law_common cd__law_common ct__law_common : Value}
    {f_is_between : Addr} {od_is_between an_is_between : Option Addr} {sl_is_between : Array (Option Value)} {oc_is_between kV_is_between dc_is_between pm_is_between cd_is_between ct_is_between : Value}
    {f_train_by : Addr} {od_train_by an_train_by : Option Addr} {sl_train_by : Array (Option Value)} {oc_train_by kV_train_by dc_train_by pm_train_by cd_train_by ct_train_by : Value}
    {f__law_lowest : Addr} {od__law_lowest an__law_lowest : Option Addr} {sl__law_lowest : Array (Option Value)} {oc__law_lowest kV__law_lowest dc__law_lowest pm__law_lowest cd__law_lowest ct__law_lowest : Value}
    {f__law_turns_back : Addr} {od__law_turns_back an__law_turns_back : Option Addr} {sl__law_turns_back : Array (Option Value)} {oc__law_turns_back kV__law_turns_back dc__law_turns_back pm__law_turns_back cd__law_turns_back ct__law_turns_back : Value}
    {f_check_teeth : Addr} {od_check_teeth an_check_teeth : Option Addr} {sl_check_teeth : Array (Option Value)} {oc_check_teeth kV_check_teeth dc_check_teeth pm_check_teeth cd_check_teeth ct_check_teeth : Value}
    {f_first_wrong : Addr} {od_first_wrong an_first_wrong : Option Addr} {sl_first_wrong : Array (Option Value)} {oc_first_wrong kV_first_wrong dc_first_wrong pm_first_wrong cd_first_wrong ct_first_wrong : Value}
    {f_is_hunting : Addr} {od_is_hunting an_is_hunting : Option Addr} {sl_is_hunting : Array (Option Value)} {oc_is_hunting kV_is_hunting dc_is_hunting pm_is_hunting cd_is_hunting ct_is_hunting : Value}
    {f_wrong_wheel : Addr} {od_wrong_wheel an_wrong_wheel : Option Addr} {sl_wrong_wheel : Array (Option Value)} {oc_wrong_wheel kV_wrong_wheel dc_wrong_wheel pm_wrong_wheel cd_wrong_wheel ct_wrong_wheel : Value}
    {f_check_train : Addr} {od_check_train an_check_train : Option Addr} {sl_check_train : Array (Option Value)} {oc_check_train kV_check_train dc_check_train pm_check_train cd_check_train ct_check_train : Value}
    {f_train : Addr} {od_train an_train : Option Addr} {sl_train : Array (Option Value)} {oc_train kV_train dc_train pm_train cd_train ct_train : Value}
    {f_turns_back : Addr} {od_turns_back an_turns_back : Option Addr} {sl_turns_back : Array (Option Value)} {oc_turns_back kV_turns_back dc_turns_back pm_turns_back cd_turns_back ct_turns_back : Value}
    {f__law_right : Addr} {od__law_right an__law_right : Option Addr} {sl__law_right : Array (Option Value)} {oc__law_right kV__law_right dc__law_right pm__law_right cd__law_right ct__law_right : Value}
    {f_law : Addr} {od_law an_law : Option Addr} {sl_law : Array (Option Value)} {oc_law kV_law dc_law pm_law cd_law ct_law : Value}
    {Pt_wrong_wheel : Addr}
    (z_abs : PySem.W.nsIn K mainGlobals "abs" = some none)
    (z_all : PySem.W.nsIn K mainGlobals "all" = some none)
    (z_bool : PySem.W.nsIn K mainGlobals "bool" = some none)
    (z_divmod : PySem.W.nsIn K mainGlobals "divmod" = some none)
    (z_enumerate : PySem.W.nsIn K mainGlobals "enumerate" = some none)
    (z_int : PySem.W.nsIn K mainGlobals "int" = some none)
    (z_isinstance : PySem.W.nsIn K mainGlobals "isinstance" = some none)
    (z_len : PySem.W.nsIn K mainGlobals "len" = some none)
    (z_max : PySem.W.nsIn K mainGlobals "max" = some none)
    (z_min : PySem.W.nsIn K mainGlobals "min" = some none)
    (z_range : PySem.W.nsIn K mainGlobals "range" = some none)
    (z_repr : PySem.W.nsIn K mainGlobals "repr" = some none)
    (z_tuple : PySem.W.nsIn K mainGlobals "tuple" = some none)
    (i_gcd : PySem.W.nsIn K mainGlobals "gcd" = some (some (.builtin "math.gcd")))
    (i_lcm : PySem.W.nsIn K mainGlobals "lcm" = some (some (.builtin "math.lcm")))
    (kg_LEAST_TEETH : PySem.W.nsIn K mainGlobals "LEAST_TEETH" = some (some (.int 6 kt_LEAST_TEETH_1)))
    (kg_MOST_TEETH : PySem.W.nsIn K mainGlobals "MOST_TEETH" = some (some (.int 99 kt_MOST_TEETH_1)))
    (kg_MOST_WHEELS : PySem.W.nsIn K mainGlobals "MOST_WHEELS" = some (some (.int 8 kt_MOST_WHEELS_1)))
    (a_is_whole : PySem.W.nsIn K mainGlobals "is_whole" = some (some (.ref f_is_whole)))
    (l_is_whole : K.lookup f_is_whole = some ⟨oc_is_whole, od_is_whole, .func (PySem.W.fnOf "is_whole" "is_whole" (defArgs (topS 6)) (defBody (topS 6)) (defScope (topS 6)) .none kV_is_whole dc_is_whole pm_is_whole an_is_whole cd_is_whole ct_is_whole), sl_is_whole⟩)
    (c_is_whole : PySem.W.codeIn K cd_is_whole "is_whole" = true)
    (q_is_whole : PySem.W.keepIn K (.ref f_is_whole) = true)
    (a_is_row : PySem.W.nsIn K mainGlobals "is_row" = some (some (.ref f_is_row)))
    (l_is_row : K.lookup f_is_row = some ⟨oc_is_row, od_is_row, .func (PySem.W.fnOf "is_row" "is_row" (defArgs (topS 8)) (defBody (topS 8)) (defScope (topS 8)) .none kV_is_row dc_is_row pm_is_row an_is_row cd_is_row ct_is_row), sl_is_row⟩)
    (c_is_row : PySem.W.codeIn K cd_is_row "is_row" = true)
    (q_is_row : PySem.W.keepIn K (.ref f_is_row) = true)
    (a_lowest : PySem.W.nsIn K mainGlobals "lowest" = some (some (.ref f_lowest)))
    (l_lowest : K.lookup f_lowest = some ⟨oc_lowest, od_lowest, .func (PySem.W.fnOf "lowest" "lowest" (defArgs (topS 10)) (defBody (topS 10)) (defScope (topS 10)) .none kV_lowest dc_lowest pm_lowest an_lowest cd_lowest ct_lowest), sl_lowest⟩)
    (c_lowest : PySem.W.codeIn K cd_lowest "lowest" = true)
    (q_lowest : PySem.W.keepIn K (.ref f_lowest) = true)
    (a_back_by : PySem.W.nsIn K mainGlobals "back_by" = some (some (.ref f_back_by)))
    (l_back_by : K.lookup f_back_by = some ⟨oc_back_by, od_back_by, .func (PySem.W.fnOf "back_by" "back_by" (defArgs (topS 16)) (defBody (topS 16)) (defScope (topS 16)) .none kV_back_by dc_back_by pm_back_by an_back_by cd_back_by ct_back_by), sl_back_by⟩)
    (c_back_by : PySem.W.codeIn K cd_back_by "back_by" = true)
    (q_back_by : PySem.W.keepIn K (.ref f_back_by) = true)
    (a__law_bag : PySem.W.nsIn K mainGlobals "_law_bag" = some (some (.ref f__law_bag)))
    (l__law_bag : K.lookup f__law_bag = some ⟨oc__law_bag, od__law_bag, .func (PySem.W.fnOf "_law_bag" "_law_bag" (defArgs (topS 24)) (defBody (topS 24)) (defScope (topS 24)) .none kV__law_bag dc__law_bag pm__law_bag an__law_bag cd__law_bag ct__law_bag), sl__law_bag⟩)
    (c__law_bag : PySem.W.codeIn K cd__law_bag "_law_bag" = true)
    (q__law_bag : PySem.W.keepIn K (.ref f__law_bag) = true)
    (a__law_take : PySem.W.nsIn K mainGlobals "_law_take" = some (some (.ref f__law_take)))
    (l__law_take : K.lookup f__law_take = some ⟨oc__law_take, od__law_take, .func (PySem.W.fnOf "_law_take" "_law_take" (defArgs (topS 25)) (defBody (topS 25)) (defScope (topS 25)) .none kV__law_take dc__law_take pm__law_take an__law_take cd__law_take ct__law_take), sl__law_take⟩)
    (c__law_take : PySem.W.codeIn K cd__law_take "_law_take" = true)
    (q__law_take : PySem.W.keepIn K (.ref f__law_take) = true)
    (a__law_common : PySem.W.nsIn K mainGlobals "_law_common" = some (some (.ref f__law_common)))
    (l__law_common : K.lookup f__law_common = some ⟨oc__law_common, od__law_common, .func (PySem.W.fnOf "_law_common" "_law_common" (defArgs (topS 26)) (defBody (topS 26)) (defScope (topS 26)) .none kV__law_common dc__law_common pm__law_common an__law_common cd__law_common ct__law_common), sl__law_common⟩)
    (c__law_common : PySem.W.codeIn K cd__law_common "_law_common" = true)
    (q__law_common : PySem.W.keepIn K (.ref f__law_common) = true)
    (a_is_between : PySem.W.nsIn K mainGlobals "is_between" = some (some (.ref f_is_between)))
    (l_is_between : K.lookup f_is_between = some ⟨oc_is_between, od_is_between, .func (PySem.W.fnOf "is_between" "is_between" (defArgs (topS 7)) (defBody (topS 7)) (defScope (topS 7)) .none kV_is_between dc_is_between pm_is_between an_is_between cd_is_between ct_is_between), sl_is_between⟩)
    (c_is_between : PySem.W.codeIn K cd_is_between "is_between" = true)
    (q_is_between : PySem.W.keepIn K (.ref f_is_between) = true)
    (a_train_by : PySem.W.nsIn K mainGlobals "train_by" = some (some (.ref f_train_by)))
    (l_train_by : K.lookup f_train_by = some ⟨oc_train_by, od_train_by, .func (PySem.W.fnOf "train_by" "train_by" (defArgs (topS 15)) (defBody (topS 15)) (defScope (topS 15)) .none kV_train_by dc_train_by pm_train_by an_train_by cd_train_by ct_train_by), sl_train_by⟩)
    (c_train_by : PySem.W.codeIn K cd_train_by "train_by" = true)
    (q_train_by : PySem.W.keepIn K (.ref f_train_by) = true)
    (a__law_lowest : PySem.W.nsIn K mainGlobals "_law_lowest" = some (some (.ref f__law_lowest)))
    (l__law_lowest : K.lookup f__law_lowest = some ⟨oc__law_lowest, od__law_lowest, .func (PySem.W.fnOf "_law_lowest" "_law_lowest" (defArgs (topS 27)) (defBody (topS 27)) (defScope (topS 27)) .none kV__law_lowest dc__law_lowest pm__law_lowest an__law_lowest cd__law_lowest ct__law_lowest), sl__law_lowest⟩)
    (c__law_lowest : PySem.W.codeIn K cd__law_lowest "_law_lowest" = true)
    (q__law_lowest : PySem.W.keepIn K (.ref f__law_lowest) = true)
    (a__law_turns_back : PySem.W.nsIn K mainGlobals "_law_turns_back" = some (some (.ref f__law_turns_back)))
    (l__law_turns_back : K.lookup f__law_turns_back = some ⟨oc__law_turns_back, od__law_turns_back, .func (PySem.W.fnOf "_law_turns_back" "_law_turns_back" (defArgs (topS 28)) (defBody (topS 28)) (defScope (topS 28)) .none kV__law_turns_back dc__law_turns_back pm__law_turns_back an__law_turns_back cd__law_turns_back ct__law_turns_back), sl__law_turns_back⟩)
    (c__law_turns_back : PySem.W.codeIn K cd__law_turns_back "_law_turns_back" = true)
    (q__law_turns_back : PySem.W.keepIn K (.ref f__law_turns_back) = true)
    (a_check_teeth : PySem.W.nsIn K mainGlobals "check_teeth" = some (some (.ref f_check_teeth)))
    (l_check_teeth : K.lookup f_check_teeth = some ⟨oc_check_teeth, od_check_teeth, .func (PySem.W.fnOf "check_teeth" "check_teeth" (defArgs (topS 19)) (defBody (topS 19)) (defScope (topS 19)) .none kV_check_teeth dc_check_teeth pm_check_teeth an_check_teeth cd_check_teeth ct_check_teeth), sl_check_teeth⟩)
    (c_check_teeth : PySem.W.codeIn K cd_check_teeth "check_teeth" = true)
    (q_check_teeth : PySem.W.keepIn K (.ref f_check_teeth) = true)
    (a_first_wrong : PySem.W.nsIn K mainGlobals "first_wrong" = some (some (.ref f_first_wrong)))
    (l_first_wrong : K.lookup f_first_wrong = some ⟨oc_first_wrong, od_first_wrong, .func (PySem.W.fnOf "first_wrong" "first_wrong" (defArgs (topS 9)) (defBody (topS 9)) (defScope (topS 9)) .none kV_first_wrong dc_first_wrong pm_first_wrong an_first_wrong cd_first_wrong ct_first_wrong), sl_first_wrong⟩)
    (c_first_wrong : PySem.W.codeIn K cd_first_wrong "first_wrong" = true)
    (q_first_wrong : PySem.W.keepIn K (.ref f_first_wrong) = true)
    (a_is_hunting : PySem.W.nsIn K mainGlobals "is_hunting" = some (some (.ref f_is_hunting)))
    (l_is_hunting : K.lookup f_is_hunting = some ⟨oc_is_hunting, od_is_hunting, .func (PySem.W.fnOf "is_hunting" "is_hunting" (defArgs (topS 22)) (defBody (topS 22)) (defScope (topS 22)) .none kV_is_hunting dc_is_hunting pm_is_hunting an_is_hunting cd_is_hunting ct_is_hunting), sl_is_hunting⟩)
    (c_is_hunting : PySem.W.codeIn K cd_is_hunting "is_hunting" = true)
    (q_is_hunting : PySem.W.keepIn K (.ref f_is_hunting) = true)
    (a_wrong_wheel : PySem.W.nsIn K mainGlobals "wrong_wheel" = some (some (.ref f_wrong_wheel)))
    (l_wrong_wheel : K.lookup f_wrong_wheel = some ⟨oc_wrong_wheel, od_wrong_wheel, .func (PySem.W.fnOf "wrong_wheel" "wrong_wheel" (defArgs (topS 17)) (defBody (topS 17)) (defScope (topS 17)) .none kV_wrong_wheel dc_wrong_wheel pm_wrong_wheel an_wrong_wheel cd_wrong_wheel ct_wrong_wheel), sl_wrong_wheel⟩)
    (c_wrong_wheel : PySem.W.codeIn K cd_wrong_wheel "wrong_wheel" = true)
    (q_wrong_wheel : PySem.W.keepIn K (.ref f_wrong_wheel) = true)
    (a_check_train : PySem.W.nsIn K mainGlobals "check_train" = some (some (.ref f_check_train)))
    (l_check_train : K.lookup f_check_train = some ⟨oc_check_train, od_check_train, .func (PySem.W.fnOf "check_train" "check_train" (defArgs (topS 18)) (defBody (topS 18)) (defScope (topS 18)) .none kV_check_train dc_check_train pm_check_train an_check_train cd_check_train ct_check_train), sl_check_train⟩)
    (c_check_train : PySem.W.codeIn K cd_check_train "check_train" = true)
    (q_check_train : PySem.W.keepIn K (.ref f_check_train) = true)
    (a_train : PySem.W.nsIn K mainGlobals "train" = some (some (.ref f_train)))
    (l_train : K.lookup f_train = some ⟨oc_train, od_train, .func (PySem.W.fnOf "train" "train" (defArgs (topS 20)) (defBody (topS 20)) (defScope (topS 20)) .none kV_train dc_train pm_train an_train cd_train ct_train), sl_train⟩)
    (c_train : PySem.W.codeIn K cd_train "train" = true)
    (q_train : PySem.W.keepIn K (.ref f_train) = true)
    (a_turns_back : PySem.W.nsIn K mainGlobals "turns_back" = some (some (.ref f_turns_back)))
    (l_turns_back : K.lookup f_turns_back = some ⟨oc_turns_back, od_turns_back, .func (PySem.W.fnOf "turns_back" "turns_back" (defArgs (topS 21)) (defBody (topS 21)) (defScope (topS 21)) .none kV_turns_back dc_turns_back pm_turns_back an_turns_back cd_turns_back ct_turns_back), sl_turns_back⟩)
    (c_turns_back : PySem.W.codeIn K cd_turns_back "turns_back" = true)
    (q_turns_back : PySem.W.keepIn K (.ref f_turns_back) = true)
    (a__law_right : PySem.W.nsIn K mainGlobals "_law_right" = some (some (.ref f__law_right)))
    (l__law_right : K.lookup f__law_right = some ⟨oc__law_right, od__law_right, .func (PySem.W.fnOf "_law_right" "_law_right" (defArgs (topS 29)) (defBody (topS 29)) (defScope (topS 29)) .none kV__law_right dc__law_right pm__law_right an__law_right cd__law_right ct__law_right), sl__law_right⟩)
    (c__law_right : PySem.W.codeIn K cd__law_right "_law_right" = true)
    (q__law_right : PySem.W.keepIn K (.ref f__law_right) = true)
    (a_law : PySem.W.nsIn K mainGlobals "law" = some (some (.ref f_law)))
    (l_law : K.lookup f_law = some ⟨oc_law, od_law, .func (PySem.W.fnOf "law" "law" (defArgs (topS 30)) (defBody (topS 30)) (defScope (topS 30)) .none kV_law dc_law pm_law an_law cd_law ct_law), sl_law⟩)
    (c_law : PySem.W.codeIn K cd_law "law" = true)
    (q_law : PySem.W.keepIn K (.ref f_law) = true)
    (x_wrong_wheel : tabOfK K cd_wrong_wheel = some Pt_wrong_wheel)
    : Tx K mg := ⟨PySem.W.mg_none_of X G z_abs,
      PySem.W.mg_none_of X G z_all,
      PySem.W.mg_none_of X G z_bool,
      PySem.W.mg_none_of X G z_divmod,
      PySem.W.mg_none_of X G z_enumerate,
      PySem.W.mg_none_of X G z_int,
      PySem.W.mg_none_of X G z_isinstance,
      PySem.W.mg_none_of X G z_len,
      PySem.W.mg_none_of X G z_max,
      PySem.W.mg_none_of X G z_min,
      PySem.W.mg_none_of X G z_range,
      PySem.W.mg_none_of X G z_repr,
      PySem.W.mg_none_of X G z_tuple,
      PySem.W.mg_of X G i_gcd,
      PySem.W.mg_of X G i_lcm,
      kd_of X G kg_LEAST_TEETH kv_int,
      kd_of X G kg_MOST_TEETH kv_int,
      kd_of X G kg_MOST_WHEELS kv_int,
      at_of X G a_is_whole l_is_whole c_is_whole q_is_whole,
      at_of X G a_is_row l_is_row c_is_row q_is_row,
      at_of X G a_lowest l_lowest c_lowest q_lowest,
      at_of X G a_back_by l_back_by c_back_by q_back_by,
      at_of X G a__law_bag l__law_bag c__law_bag q__law_bag,
      at_of X G a__law_take l__law_take c__law_take q__law_take,
      at_of X G a__law_common l__law_common c__law_common q__law_common,
      at_of X G a_is_between l_is_between c_is_between q_is_between,
      at_of X G a_train_by l_train_by c_train_by q_train_by,
      at_of X G a__law_lowest l__law_lowest c__law_lowest q__law_lowest,
      at_of X G a__law_turns_back l__law_turns_back c__law_turns_back q__law_turns_back,
      at_of X G a_check_teeth l_check_teeth c_check_teeth q_check_teeth,
      at_of X G a_first_wrong l_first_wrong c_first_wrong q_first_wrong,
      at_of X G a_is_hunting l_is_hunting c_is_hunting q_is_hunting,
      at_of X G a_wrong_wheel l_wrong_wheel c_wrong_wheel q_wrong_wheel,
      at_of X G a_check_train l_check_train c_check_train q_check_train,
      at_of X G a_train l_train c_train q_train,
      at_of X G a_turns_back l_turns_back c_turns_back q_turns_back,
      at_of X G a__law_right l__law_right c__law_right q__law_right,
      at_of X G a_law l_law c_law q_law,
      tabAt_of X G a_wrong_wheel l_wrong_wheel x_wrong_wheel rfl⟩
theorem law_mk {l : PySem.W.OpenLaw} {w : World} {K : PySem.W.Frag} {h : Heap} {mg : Str → Option Value} {fa : Addr} (T : Tx K mg) (hfa : mg "law" = some (.ref fa)) :
    ∃ fd : FuncData, (∀ (s : Shared) (u : Value), BindsTo s fd ⟨[u], []⟩ [("script", u)]) ∧ ∀ base : Heap, K.In base → base.Ns mainGlobals mg → BmG base mg → FnG l.prog w K mg base 9 fa fd ["script"] F_law := by
  obtain ⟨f, fd, dV, F, dd, hm⟩ := T.a_law
  obtain ⟨_, rfl⟩ := dd.resolve_right fun z => z.1 rfl
  have e := hfa.symm.trans hm
  cases e
  refine ⟨fd, fun s u => ?_, fun base _ _ B => ?_⟩
  · obtain ⟨oc, od, kV, doc, pm, an, cdv, ct, osl, rfl, lk, hcd⟩ := F.ex
    exact .of_eq rfl
  · obtain ⟨f2, fd2, dV2, F2, dd2, hm2, G2⟩ := (all_has (P := l.prog) (w := w) (base := base) T B).ex
    obtain ⟨_, rfl⟩ := dd2.resolve_right fun z => z.1 rfl
    have e := hm.symm.trans hm2
    cases e
    obtain ⟨oc, od, kV, doc, pm, an, cdv, ct, osl, rfl, lk, hcd⟩ := F.ex
    obtain ⟨oc2, od2, kV2, doc2, pm2, an2, cdv2, ct2, osl2, rfl, lk2, hcd2⟩ := F2.ex
    rw [lk] at lk2
    cases lk2
    exact G2
end Lw

open PySem PySem.W PyProof.Rows
theorem PySem.Challenge.cw_fractiontrees_k71_whole_trains_holds : PySem.Challenge.rw_fractiontrees_k71_whole_trains.Holds := by
  w_on; o_law; k_head; (case hw => w_witness2)
  k_fill
  refine Fz.walk_L (l := PySem.Challenge.rw_fractiontrees_k71_whole_trains) (n := 63) (k := 9) (x := "script") (F := Lw.F_law) rfl (by decide) rfl ⟨rfl, by decide, by decide⟩ (fun w h Y => by first | exact PySem.W.kIn_of Y | exact PySem.W.km_in_of Y) ?F ?nolam (fun ns h => Fz.law_sim Lw.sim_law (Lw.law_ok ns h))
  case nolam => intro w; first | rfl | decide +kernel
  case F =>
    intro w mg fa h KX G hmg
    refine' Lw.law_mk (h := h) (Lw.tx_mk KX G ?z_abs ?z_all ?z_bool ?z_divmod ?z_enumerate ?z_int ?z_isinstance ?z_len ?z_max ?z_min ?z_range ?z_repr ?z_tuple ?i_gcd ?i_lcm ?kg_LEAST_TEETH ?kg_MOST_TEETH ?kg_MOST_WHEELS ?a_is_whole ?l_is_whole ?c_is_whole ?q_is_whole ?a_is_row ?l_is_row ?c_is_row ?q_is_row ?a_lowest ?l_lowest ?c_lowest ?q_lowest ?a_back_by ?l_back_by ?c_back_by ?q_back_by ?a__law_bag ?l__law_bag ?c__law_bag ?q__law_bag ?a__law_take ?l__law_take ?c__law_take ?q__law_take ?a__law_common ?l__law_common ?c__law_common ?q__law_common ?a_is_between ?l_is_between ?c_is_between ?q_is_between ?a_train_by ?l_train_by ?c_train_by ?q_train_by ?a__law_lowest ?l__law_lowest ?c__law_lowest ?q__law_lowest ?a__law_turns_back ?l__law_turns_back ?c__law_turns_back ?q__law_turns_back ?a_check_teeth ?l_check_teeth ?c_check_teeth ?q_check_teeth ?a_first_wrong ?l_first_wrong ?c_first_wrong ?q_first_wrong ?a_is_hunting ?l_is_hunting ?c_is_hunting ?q_is_hunting ?a_wrong_wheel ?l_wrong_wheel ?c_wrong_wheel ?q_wrong_wheel ?a_check_train ?l_check_train ?c_check_train ?q_check_train ?a_train ?l_train ?c_train ?q_train ?a_turns_back ?l_turns_back ?c_turns_back ?q_turns_back ?a__law_right ?l__law_right ?c__law_right ?q__law_right ?a_law ?l_law ?c_law ?q_law ?x_wrong_wheel) hmg
    (case z_abs => k_is)
    (case z_all => k_is)
    (case z_bool => k_is)
    (case z_divmod => k_is)
    (case z_enumerate => k_is)
    (case z_int => k_is)
    (case z_isinstance => k_is)
    (case z_len => k_is)
    (case z_max => k_is)
    (case z_min => k_is)
    (case z_range => k_is)
    (case z_repr => k_is)
    (case z_tuple => k_is)
    (case i_gcd => k_is)
    (case i_lcm => k_is)
    (case kg_LEAST_TEETH => k_is)
    (case kg_MOST_TEETH => k_is)
    (case kg_MOST_WHEELS => k_is)
    (case a_is_whole => k_is)
    (case l_is_whole => k_is)
    (case c_is_whole => k_is)
    (case q_is_whole => k_is)
    (case a_is_row => k_is)
    (case l_is_row => k_is)
    (case c_is_row => k_is)
    (case q_is_row => k_is)
    (case a_lowest => k_is)
    (case l_lowest => k_is)
    (case c_lowest => k_is)
    (case q_lowest => k_is)
    (case a_back_by => k_is)
    (case l_back_by => k_is)
    (case c_back_by => k_is)
    (case q_back_by => k_is)
    (case a__law_bag => k_is)
    (case l__law_bag => k_is)
    (case c__law_bag => k_is)
    (case q__law_bag => k_is)
    (case a__law_take => k_is)
    (case l__law_take => k_is)
    (case c__law_take => k_is)
    (case q__law_take => k_is)
    (case a__law_common => k_is)
    (case l__law_common => k_is)
    (case c__law_common => k_is)
    (case q__law_common => k_is)
    (case a_is_between => k_is)
    (case l_is_between => k_is)
    (case c_is_between => k_is)
    (case q_is_between => k_is)
    (case a_train_by => k_is)
    (case l_train_by => k_is)
    (case c_train_by => k_is)
    (case q_train_by => k_is)
    (case a__law_lowest => k_is)
    (case l__law_lowest => k_is)
    (case c__law_lowest => k_is)
    (case q__law_lowest => k_is)
    (case a__law_turns_back => k_is)
    (case l__law_turns_back => k_is)
    (case c__law_turns_back => k_is)
    (case q__law_turns_back => k_is)
    (case a_check_teeth => k_is)
    (case l_check_teeth => k_is)
    (case c_check_teeth => k_is)
    (case q_check_teeth => k_is)
    (case a_first_wrong => k_is)
    (case l_first_wrong => k_is)
    (case c_first_wrong => k_is)
    (case q_first_wrong => k_is)
    (case a_is_hunting => k_is)
    (case l_is_hunting => k_is)
    (case c_is_hunting => k_is)
    (case q_is_hunting => k_is)
    (case a_wrong_wheel => k_is)
    (case l_wrong_wheel => k_is)
    (case c_wrong_wheel => k_is)
    (case q_wrong_wheel => k_is)
    (case a_check_train => k_is)
    (case l_check_train => k_is)
    (case c_check_train => k_is)
    (case q_check_train => k_is)
    (case a_train => k_is)
    (case l_train => k_is)
    (case c_train => k_is)
    (case q_train => k_is)
    (case a_turns_back => k_is)
    (case l_turns_back => k_is)
    (case c_turns_back => k_is)
    (case q_turns_back => k_is)
    (case a__law_right => k_is)
    (case l__law_right => k_is)
    (case c__law_right => k_is)
    (case q__law_right => k_is)
    (case a_law => k_is)
    (case l_law => k_is)
    (case c_law => k_is)
    (case q_law => k_is)
    (case x_wrong_wheel => rfl)

