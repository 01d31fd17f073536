import PyProof.Rows.All
import HandS.ForMost
import HandS.ForExc
import HandS.Lambda
import HandS.Star
import HandS.TupAny
import HandS.TupMul
import HandS.Zip
import HandS.Flow
import HandS.Style
import HandS.ExcSuper
import HandS.ExcIs
import HandS.ExcField
import HandS.IsInst
import HandS.Defaults
import HandS.HeadHook4
import HandS.Wide
import HandS.Conv
import HandS.DeepEq
import KE.KExcSuper
import KE.KSuper
import KE.KExcIs
import KE.GoesMore
import KE.GoesZip
import KE.GoesEnum
import HandS.SetFor
import HandS.MakeKw
import HandS.Property
import PySem.Challenge.RW_shiftrows_k03_registers_their_parts_and
import HandS.EndTab
import HandS.Head2
import KE.KStateDown
set_option Elab.async false
set_option linter.all false
set_option maxRecDepth 100000
/-! DL1: plain data over the layer's heap -/
namespace DL
open PySem PySem.Spec PyProof.Rows L2

/-- plain data; ref: a cell of the store; glo: what a module's name stands for; scr: the script; emp: an empty dict -/
inductive D where
  | non | bl (b : Bool) | int (i : Int) | str (s : Str) | adr (a : Addr) | xo1 (a dd : Addr) (f : Str) (d : D)
  | tup (ds : List D) | lst (ds : List D) | ref (n : Nat) | glo (x : Str) | scr (ns : List Int) | emp
  | obj (C : Str) (ks : List Str) (ds : List D)
/-- a name of a frame: not told of; a datum; a list of its own -/
inductive Slot where
  | hid | val (d : D) | own (ds : List D)
inductive Cell where
  | lst (ds : List D) | ins (C : Str) (fs : List (Str × D))
abbrev En := List Slot
abbrev Sto := List Cell
abbrev Pay := Option (Str × D)
inductive Res (α : Type) where
  | ok (a : α) (S : Sto) | exn (c : Str) (p : Pay) (S : Sto) | stuck
inductive RS where
  | nx (e : En) (S : Sto) | rt (d : D) (S : Sto) | bk (e : En) (S : Sto) | ct (e : En) (S : Sto) | exn (c : Str) (p : Pay) (e : En) (S : Sto) | stuck
def Res.bnd {α β : Type} : Res α → (α → Sto → Res β) → Res β
  | .ok a S, f => f a S
  | .exn c p S, _ => .exn c p S
  | .stuck, _ => .stuck
/-- an expression's result goes on in a statement -/
def Res.bndS {α : Type} (r : Res α) (e : En) (f : α → Sto → RS) : RS := match r with
  | .ok a S => f a S
  | .exn c p S => .exn c p e S
  | .stuck => .stuck

structure Gd where
  K : PySem.W.Frag
  mg : Str → Option Value
  T : List (Addr × Str)

/-- a tuple of the written part -/
def Kt (K : PySem.W.Frag) (a : Addr) (xs : List V) : Prop :=
  ∃ (o : Obj) (its : Array Value) (n : Nat), K.lookup a = some o ∧ o.cls = .type "tuple" ∧ o.data = .seq its n ∧ its.size ≤ sizeLine ∧ Vals xs its.toList

/-- a list of the written part -/
def KtL (K : PySem.W.Frag) (a : Addr) (xs : List V) : Prop :=
  ∃ (o : Obj) (its : Array Value) (n : Nat), K.lookup a = some o ∧ o.cls = .type "list" ∧ o.dict = none ∧ o.data = .seq its n ∧ its.size ≤ sizeLine ∧ Vals xs its.toList
mutual
inductive Rep (G : Gd) (φ : List Addr) (U : Addr → Prop) (H : Hp) : V → D → Prop where
  | non : Rep G φ U H .non .non
  | bl (b : Bool) : Rep G φ U H (.bl b) (.bl b)
  | int (i : Int) : Rep G φ U H (.int i) (.int i)
  | str (x : Str) : Rep G φ U H (.str x) (.str x)
  | adr (a : Addr) : Rep G φ U H (.ref a) (.adr a)
  | xo1 {a dd : Addr} {f : Str} {v : V} {d : D} : H dd = some (.xd [(f, v)]) → ¬ U dd → Rep G φ U H v d → Rep G φ U H (.ref a) (.xo1 a dd f d)
  | tup {a : Addr} {vs : List V} {ds : List D} : H a = some (.tup vs) → ¬ U a → RepL G φ U H vs ds → Rep G φ U H (.ref a) (.tup ds)
  | tupK {a : Addr} {vs : List V} {ds : List D} : Kt G.K a vs → RepL G φ U H vs ds → Rep G φ U H (.ref a) (.tup ds)
  | lst {a : Addr} {vs : List V} {ds : List D} : H a = some (.lst vs) → ¬ U a → RepL G φ U H vs ds → Rep G φ U H (.ref a) (.lst ds)
  | ref {n : Nat} {a : Addr} : φ[n]? = some a → Rep G φ U H (.ref a) (.ref n)
  | glo {x : Str} {v : V} {u : Value} : G.mg x = some u → RelV v u → Rep G φ U H v (.glo x)
  | scr {a : Addr} {o : HO} {ns : List Int} : H a = some o → (o = .lst (ns.map V.int) ∨ ∃ ob, o = .frz ob (.lst (ns.map V.int))) → ¬ U a → Rep G φ U H (.ref a) (.scr ns)
  | scrK {a : Addr} {ns : List Int} : KtL G.K a (ns.map V.int) → Rep G φ U H (.ref a) (.scr ns)
  | emp {a : Addr} : H a = some (.dK []) → ¬ U a → Rep G φ U H (.ref a) .emp
  | obj {a Ca dx : Addr} {C : Str} {ks : List Str} {vs : List V} {ds : List D} : G.mg C = some (.ref Ca) → H a = some (.ins Ca dx (ks.zip vs)) → ¬ U a → ks.length = ds.length → RepL G φ U H vs ds → Rep G φ U H (.ref a) (.obj C ks ds)
inductive RepL (G : Gd) (φ : List Addr) (U : Addr → Prop) (H : Hp) : List V → List D → Prop where
  | nil : RepL G φ U H [] []
  | cons {v : V} {vs : List V} {d : D} {ds : List D} : Rep G φ U H v d → RepL G φ U H vs ds → RepL G φ U H (v :: vs) (d :: ds)
end

def NT (o : HO) : Prop := ∀ ps, o ≠ .tbl ps
def Nil0 (H : Hp) (a : Addr) : Prop := ∀ o, NT o → H a ≠ some o
theorem nil0 {H : Hp} {a : Addr} (h : H a = none) : Nil0 H a := fun o _ e => by rw [h] at e; cases e
/-- what was told of and stood fast stands, and stands fast -/
def Stp (U : Addr → Prop) (H : Hp) (U' : Addr → Prop) (H' : Hp) : Prop := ∀ a o, NT o → H a = some o → ¬ U a → H' a = some o ∧ ¬ U' a
theorem Stp.refl {U H} : Stp U H U H := fun _ _ _ h n => ⟨h, n⟩
theorem Stp.trans {U H U1 H1 U2 H2} (a : Stp U H U1 H1) (b : Stp U1 H1 U2 H2) : Stp U H U2 H2 := fun x o nt h n => by
  obtain ⟨h1, n1⟩ := a x o nt h n
  exact b x o nt h1 n1
theorem nt_tup {vs} : NT (.tup vs) := fun _ h => by cases h
theorem nt_lst {vs} : NT (.lst vs) := fun _ h => by cases h
theorem nt_dK {vs} : NT (.dK vs) := fun _ h => by cases h
theorem nt_frz {o u} : NT (.frz o u) := fun _ h => by cases h
theorem nt_ins {C dx fs} : NT (.ins C dx fs) := fun _ h => by cases h

section
variable {G : Gd} {φ φ' : List Addr} {U U' : Addr → Prop} {H H' : Hp}
theorem pre_at {n : Nat} {a : Addr} (p : φ <+: φ') (h : φ[n]? = some a) : φ'[n]? = some a := by
  obtain ⟨t, rfl⟩ := p
  rw [List.getElem?_append_left (List.getElem?_eq_some_iff.mp h).1]
  exact h
mutual
theorem Rep.step (s : Stp U H U' H') (p : φ <+: φ') : ∀ (d : D) (v : V), Rep G φ U H v d → Rep G φ' U' H' v d
  | .non, _, h => by cases h; exact .non
  | .bl _, _, h => by cases h; exact .bl _
  | .int _, _, h => by cases h; exact .int _
  | .str _, _, h => by cases h; exact .str _
  | .adr _, _, h => by cases h; exact .adr _
  | .xo1 a dd f d, _, h => by
    cases h with
    | xo1 h1 h2 h3 =>
      obtain ⟨k1, k2⟩ := s _ _ (fun _ z => by cases z) h1 h2
      exact .xo1 k1 k2 (Rep.step s p d _ h3)
  | .tup ds, _, h => by
    cases h with
    | tup h1 h2 h3 =>
      obtain ⟨k1, k2⟩ := s _ _ nt_tup h1 h2
      exact .tup k1 k2 (RepL.step s p ds _ h3)
    | tupK h1 h3 => exact .tupK h1 (RepL.step s p ds _ h3)
  | .lst ds, _, h => by
    cases h with
    | lst h1 h2 h3 =>
      obtain ⟨k1, k2⟩ := s _ _ nt_lst h1 h2
      exact .lst k1 k2 (RepL.step s p ds _ h3)
  | .ref _, _, h => by
    cases h with
    | ref h1 => exact .ref (pre_at p h1)
  | .glo _, _, h => by
    cases h with
    | glo h1 h2 => exact .glo h1 h2
  | .scr ns, _, h => by
    cases h with
    | scr h1 h2 h3 =>
      obtain ⟨k1, k2⟩ := s _ _ (by rcases h2 with rfl | ⟨_, rfl⟩; exact nt_lst; exact nt_frz) h1 h3
      exact .scr k1 h2 k2
    | scrK h1 => exact .scrK h1
  | .emp, _, h => by
    cases h with
    | emp h1 h2 =>
      obtain ⟨k1, k2⟩ := s _ _ nt_dK h1 h2
      exact .emp k1 k2
  | .obj C ks ds, _, h => by
    cases h with
    | obj h0 h1 h3 h5 h6 =>
      obtain ⟨k1, k2⟩ := s _ _ nt_ins h1 h3
      exact .obj h0 k1 k2 h5 (RepL.step s p ds _ h6)
theorem RepL.step (s : Stp U H U' H') (p : φ <+: φ') : ∀ (ds : List D) (vs : List V), RepL G φ U H vs ds → RepL G φ' U' H' vs ds
  | [], _, h => by cases h; exact .nil
  | d :: ds, _, h => by
    cases h with
    | cons h1 h2 => exact .cons (Rep.step s p d _ h1) (RepL.step s p ds _ h2)
end
theorem Rep.st {v d} (h : Rep G φ U H v d) (s : Stp U H U' H') (p : φ <+: φ') : Rep G φ' U' H' v d := Rep.step s p d v h
theorem RepL.st {vs ds} (h : RepL G φ U H vs ds) (s : Stp U H U' H') (p : φ <+: φ') : RepL G φ' U' H' vs ds := RepL.step s p ds vs h
theorem RepL.length : ∀ {vs : List V} {ds : List D}, RepL G φ U H vs ds → vs.length = ds.length
  | [], _, h => by cases h; rfl
  | v :: vs, _, h => by
    cases h with
    | cons h1 h2 => rw [List.length_cons, List.length_cons, h2.length]
theorem RepL.get : ∀ {vs : List V} {ds : List D} {i : Nat} {d : D}, RepL G φ U H vs ds → ds[i]? = some d → ∃ v, vs[i]? = some v ∧ Rep G φ U H v d
  | _, _, i, d, .nil, e => by simp at e
  | _, _, 0, d, .cons h1 h2, e => by simp at e; subst e; exact ⟨_, rfl, h1⟩
  | _, _, i + 1, d, .cons h1 h2, e => by
    obtain ⟨v, e1, r⟩ := RepL.get (i := i) h2 (by simpa using e)
    exact ⟨v, by simpa using e1, r⟩
theorem RepL.app {vs ws : List V} {ds es : List D} (h1 : RepL G φ U H vs ds) (h2 : RepL G φ U H ws es) : RepL G φ U H (vs ++ ws) (ds ++ es) := by
  induction vs generalizing ds with
  | nil => cases h1; exact h2
  | cons v vs ih =>
    cases h1 with
    | cons a b => exact .cons a (ih b)
theorem RepL.take {vs : List V} {ds : List D} (h : RepL G φ U H vs ds) (n : Nat) : RepL G φ U H (vs.take n) (ds.take n) := by
  induction n generalizing vs ds with
  | zero => exact .nil
  | succ n ih =>
    cases h with
    | nil => exact .nil
    | cons a b => exact .cons a (ih b)
theorem RepL.drop {vs : List V} {ds : List D} (h : RepL G φ U H vs ds) (n : Nat) : RepL G φ U H (vs.drop n) (ds.drop n) := by
  induction n generalizing vs ds with
  | zero => exact h
  | succ n ih =>
    cases h with
    | nil => exact .nil
    | cons a b => exact ih b
theorem RepL.set {vs : List V} {ds : List D} {v : V} {d : D} (h : RepL G φ U H vs ds) (hv : Rep G φ U H v d) (n : Nat) : RepL G φ U H (vs.set n v) (ds.set n d) := by
  induction n generalizing vs ds with
  | zero =>
    cases h with
    | nil => exact .nil
    | cons a b => exact .cons hv b
  | succ n ih =>
    cases h with
    | nil => exact .nil
    | cons a b => exact .cons a (ih b)
theorem Rep.sqT {a : Addr} {ds : List D} (h : Rep G φ U H (.ref a) (.tup ds)) : ∃ vs, SqT G.K H a vs ∧ RepL G φ U H vs ds := by
  cases h with
  | tup h1 h2 h3 => exact ⟨_, .inl (.inl h1), h3⟩
  | tupK h1 h3 => exact ⟨_, .inr h1, h3⟩
theorem Rep.ofInt {i : Int} {v : V} (h : Rep G φ U H v (.int i)) : v = .int i := by cases h; rfl
theorem Rep.ofBl {b : Bool} {v : V} (h : Rep G φ U H v (.bl b)) : v = .bl b := by cases h; rfl
theorem Rep.ofStr {b : Str} {v : V} (h : Rep G φ U H v (.str b)) : v = .str b := by cases h; rfl
theorem Rep.ofNon {v : V} (h : Rep G φ U H v .non) : v = .non := by cases h; rfl
theorem Rep.ofTup {ds : List D} {v : V} (h : Rep G φ U H v (.tup ds)) : ∃ a vs, v = .ref a ∧ SqT G.K H a vs ∧ RepL G φ U H vs ds := by
  cases h with
  | tup h1 h2 h3 => exact ⟨_, _, rfl, .inl (.inl h1), h3⟩
  | tupK h1 h3 => exact ⟨_, _, rfl, .inr h1, h3⟩
theorem Rep.ofLst {ds : List D} {v : V} (h : Rep G φ U H v (.lst ds)) : ∃ a vs, v = .ref a ∧ H a = some (.lst vs) ∧ ¬ U a ∧ RepL G φ U H vs ds := by
  cases h with
  | lst h1 h2 h3 => exact ⟨_, _, rfl, h1, h2, h3⟩
theorem Rep.ofScr {ns : List Int} {v : V} (h : Rep G φ U H v (.scr ns)) : ∃ a, v = .ref a ∧ SqL G.K H a (ns.map V.int) := by
  cases h with
  | scr h1 h2 h3 =>
    rcases h2 with rfl | ⟨ob, rfl⟩
    · exact ⟨_, rfl, .inl (.inl h1)⟩
    · exact ⟨_, rfl, .inl (.inr ⟨_, h1⟩)⟩
  | scrK h1 => exact ⟨_, rfl, .inr h1⟩
theorem RepL.ints : ∀ {vs : List V} {ns : List Int}, RepL G φ U H vs (ns.map D.int) → vs = ns.map V.int
  | [], ns, h => by
    cases ns with
    | nil => rfl
    | cons n ns => cases h
  | v :: vs, ns, h => by
    cases ns with
    | nil => cases h
    | cons n ns =>
      cases h with
      | cons a b => rw [a.ofInt, b.ints]; rfl
theorem RepL.ofInts : ∀ {ns : List Int}, RepL G φ U H (ns.map V.int) (ns.map D.int)
  | [] => .nil
  | n :: ns => .cons (.int n) RepL.ofInts
end

/-! ### a frame -/
/-- a frame's own constants: what its callers hold, the heap and the cells at its entry -/
structure Fr where
  U0 : Addr → Prop
  H0 : Hp
  φ0 : List Addr
/-- where the lists of a name's own lie; lists just made, not yet bound -/
structure Ow where
  sl : List (Option Addr)
  tm : List (Addr × List D)
def Ow.has (ow : Ow) (a : Addr) : Prop := some a ∈ ow.sl ∨ a ∈ ow.tm.map Prod.fst
def mutA (F : Fr) (φ : List Addr) (ow : Ow) (a : Addr) : Prop := F.U0 a ∨ a ∈ φ ∨ ow.has a
inductive RepC (G : Gd) (φ : List Addr) (U : Addr → Prop) (H : Hp) (a : Addr) : Cell → Prop where
  | lst {vs ds} : H a = some (.lst vs) → RepL G φ U H vs ds → RepC G φ U H a (.lst ds)
  | ins {C : Str} {Ca dx : Addr} {vs : List V} {fs : List (Str × D)} : G.mg C = some (.ref Ca) → H a = some (.ins Ca dx ((fs.map (·.1)).zip vs)) → H dx = some (.own a) → RepL G φ U H vs (fs.map (·.2)) → RepC G φ U H a (.ins C fs)

/-- it is told of, and no table of code objects -/
def Lv (H : Hp) (a : Addr) : Prop := ∃ o, NT o ∧ H a = some o
theorem Lv.ne {H : Hp} {a : Addr} (h : Lv H a) : H a ≠ none := fun z => by
  obtain ⟨o, _, e⟩ := h
  rw [z] at e
  cases e
structure Rel (G : Gd) (F : Fr) (φ : List Addr) (ow : Ow) (S : Sto) (env : En) (σ : L2.St) (H : Hp) : Prop where
  lenE : env.length = σ.length
  lenO : ow.sl.length = env.length
  slot : ∀ (i : Nat) d, env[i]? = some (.val d) → ∃ v, σ[i]? = some (some v) ∧ Rep G φ (mutA F φ ow) H v d
  own : ∀ (i : Nat) ds, env[i]? = some (.own ds) → ∃ a vs, ow.sl[i]? = some (some a) ∧ σ[i]? = some (some (.ref a)) ∧ H a = some (.lst vs) ∧ RepL G φ (mutA F φ ow) H vs ds
  tmp : ∀ a ds, (a, ds) ∈ ow.tm → ∃ vs, H a = some (.lst vs) ∧ RepL G φ (mutA F φ ow) H vs ds
  owI : ∀ (i j : Nat) a, ow.sl[i]? = some (some a) → ow.sl[j]? = some (some a) → i = j
  tmI : (ow.tm.map Prod.fst).Nodup
  owT : ∀ a, some a ∈ ow.sl → a ∉ ow.tm.map Prod.fst
  owN : ∀ a, ow.has a → a ∉ φ ∧ ¬ F.U0 a ∧ Nil0 F.H0 a ∧ Lv H a
  cells : ∀ (n : Nat) c, S[n]? = some c → ∃ a, φ[n]? = some a ∧ RepC G φ (mutA F φ ow) H a c
  nd : φ.Nodup
  pre : F.φ0 <+: φ
  new : ∀ a ∈ φ, a ∈ F.φ0 ∨ Nil0 F.H0 a
  there : ∀ a ∈ φ, Lv H a
  u0 : ∀ a, F.U0 a → a ∉ φ ∧ Lv H a
  keep : ∀ a o, NT o → F.H0 a = some o → a ∉ F.φ0 → H a = some o
  tabs : LamX.Tabs G.T H
  lenS : S.length = φ.length
  owE : ∀ (i : Nat) a, ow.sl[i]? = some (some a) → ∃ ds, env[i]? = some (.own ds)

section
variable {G : Gd} {F : Fr} {φ φ' : List Addr} {ow : Ow} {S S' : Sto} {env : En} {σ : L2.St} {H H' : Hp}
/-- what changes is tracked -/
theorem Rel.mutT (R : Rel G F φ ow S env σ H) {a : Addr} (h : mutA F φ ow a) : H a ≠ none := by
  rcases h with h | h | h
  · exact (R.u0 a h).2.ne
  · exact (R.there a h).ne
  · exact (R.owN a h).2.2.2.ne
theorem Rel.nil (R : Rel G F φ ow S env σ H) {p : Addr} (hp : H p = none) : Nil0 F.H0 p := fun o nt e => by
  by_cases h : p ∈ F.φ0
  · exact (R.there p (R.pre.subset h)).ne hp
  · rw [R.keep p o nt e h] at hp; cases hp
theorem Rel.fresh (R : Rel G F φ ow S env σ H) {p : Addr} (hp : H p = none) : ¬ mutA F φ ow p := fun h => R.mutT h hp
theorem stp_same {U : Addr → Prop} (s : Same H H') : Stp U H U H' := fun a o _ h n => ⟨s a o h, n⟩
theorem same_upd {p : Addr} {o : HO} (h : H p = none) : Same H (upd H p o) := fun b x e => by
  rw [upd_ne (ne_of_none e h)]
  exact e
theorem same_ne {a : Addr} (s : Same H H') (h : Lv H a) : Lv H' a := by
  obtain ⟨o, n, e⟩ := h
  exact ⟨o, n, s a o e⟩
theorem RepC.st {U U' : Addr → Prop} {a : Addr} {c : Cell} (h : RepC G φ U H a c) (s : Stp U H U' H') (p : φ <+: φ') (ha : ∀ o, H a = some o → H' a = some o) (hx : ∀ dx, H dx = some (.own a) → H' dx = some (.own a)) : RepC G φ' U' H' a c := by
  cases h with
  | lst h1 h2 => exact .lst (ha _ h1) (h2.st s p)
  | ins h1 h2 h3 h4 => exact .ins h1 (ha _ h2) (hx _ h3) (h4.st s p)
/-- the heap grows -/
theorem Rel.same (R : Rel G F φ ow S env σ H) (s : Same H H') : Rel G F φ ow S env σ H' where
  lenE := R.lenE
  lenO := R.lenO
  slot := fun i d e => by
    obtain ⟨v, h1, h2⟩ := R.slot i d e
    exact ⟨v, h1, h2.st (stp_same s) (List.prefix_refl _)⟩
  tmp := fun a ds h => by
    obtain ⟨vs, h1, h2⟩ := R.tmp a ds h
    exact ⟨vs, s _ _ h1, h2.st (stp_same s) (List.prefix_refl _)⟩
  own := fun i ds e => by
    obtain ⟨a, vs, h1, h2, h3, h4⟩ := R.own i ds e
    exact ⟨a, vs, h1, h2, s _ _ h3, h4.st (stp_same s) (List.prefix_refl _)⟩
  owI := R.owI
  tmI := R.tmI
  owT := R.owT
  owN := fun a h => by
    obtain ⟨h1, h2, h3, h4⟩ := R.owN a h
    exact ⟨h1, h2, h3, same_ne s h4⟩
  cells := fun n c e => by
    obtain ⟨a, h1, h2⟩ := R.cells n c e
    exact ⟨a, h1, h2.st (stp_same s) (List.prefix_refl _) (fun o => s _ o) (fun dx => s _ _)⟩
  nd := R.nd
  pre := R.pre
  new := R.new
  there := fun a h => same_ne s (R.there a h)
  u0 := fun a h => ⟨(R.u0 a h).1, same_ne s (R.u0 a h).2⟩
  keep := fun a o nt h1 h2 => s _ _ (R.keep a o nt h1 h2)
  tabs := R.tabs.ext s
  lenS := R.lenS
  owE := R.owE
/-- behind a frame's end -/
theorem Rel.drop (R : Rel G F φ ow S env σ H) : Rel G F φ ⟨[], []⟩ S [] [] H where
  lenE := rfl
  lenO := rfl
  tmp := fun a ds h => by simp at h
  slot := fun i d e => by simp at e
  own := fun i ds e => by simp at e
  owI := fun i j a e => by simp at e
  tmI := .nil
  owT := fun a h => by simp at h
  owN := fun a h => by simp [Ow.has] at h
  cells := fun n c e => by
    obtain ⟨a, h1, h2⟩ := R.cells n c e
    refine ⟨a, h1, h2.st (fun b o _ hb hn => ⟨hb, fun z => hn ?_⟩) (List.prefix_refl _) (fun _ h => h) (fun _ h => h)⟩
    rcases z with z | z | z
    · exact .inl z
    · exact .inr (.inl z)
    · simp [Ow.has] at z
  nd := R.nd
  pre := R.pre
  new := R.new
  there := R.there
  u0 := R.u0
  keep := R.keep
  tabs := R.tabs
  lenS := R.lenS
  owE := fun i a e => by simp at e
end
end DL
set_option Elab.async false
set_option linter.all false
set_option maxRecDepth 100000
/-! DL2: judgements of expressions and their plain meanings -/
namespace DL
open PySem PySem.Spec PyProof.Rows L2

abbrev M (α : Type) := En → Sto → Res α
abbrev gX (X : Cx) (T : List (Addr × Str)) : Gd := ⟨X.K, X.mg, T⟩
/-- how a result lies in the heap: the names' data, their own lists' addresses, the cells' addresses, what changes, the heap -/
abbrev RP (α β : Type) := En → Ow → List Addr → (Addr → Prop) → Hp → β → α → Prop
abbrev OW := Ow
def XRep (G : Gd) (φ : List Addr) (U : Addr → Prop) (H : Hp) (c : Str) (p : Pay) (cls : Value) (dd : Option Addr) : Prop :=
  (∃ C, G.mg c = some (.ref C) ∧ cls = .ref C) ∧ match p with
    | none => dd = none
    | some (f, d) => ∃ x v, dd = some x ∧ H x = some (.xd [(f, v)]) ∧ ¬ U x ∧ Rep G φ U H v d
def PostR {α β : Type} (G : Gd) (F : Fr) (W : WX) (rp : RP α β) (φ : List Addr) (ow : OW) (env : En) (σ : L2.St) (H : Hp) : Res α → (β → Hp → Prop) → Prop
  | .ok a S', Q => ∀ φ' H' v, Rel G F φ' ow S' env σ H' → Stp (mutA F φ ow) H (mutA F φ' ow) H' → φ <+: φ' → rp env ow φ' (mutA F φ' ow) H' v a → Q v H'
  | .exn c p S', _ => ∀ φ' H' cls dd, Rel G F φ' ow S' env σ H' → Stp (mutA F φ ow) H (mutA F φ' ow) H' → φ <+: φ' → XRep G φ' (mutA F φ' ow) H' c p cls dd → W cls dd σ H'
  | .stuck, _ => False
def LiftR {α β : Type} (G : Gd) (F : Fr) (W : WX) (rp : RP α β) (m : M α) : L2.St → Hp → (β → Hp → Prop) → Prop := fun σ H Q =>
  ∃ φ ow S env, Rel G F φ ow S env σ H ∧ PostR G F W rp φ ow env σ H (m env S) Q
section
variable {α β γ δ : Type} {G : Gd} {F : Fr} {W : WX} {rp : RP α β} {rq : RP γ δ} {φ φ1 : List Addr} {ow : OW} {S : Sto} {env : En} {σ : L2.St} {H H1 : Hp}
theorem PostR.go {r : Res α} {Q : β → Hp → Prop} (h : PostR G F W rp φ ow env σ H r Q) (s : Stp (mutA F φ ow) H (mutA F φ1 ow) H1) (p : φ <+: φ1) : PostR G F W rp φ1 ow env σ H1 r Q := by
  cases r with
  | ok a S' => exact fun φ' H' v R' s' p' r' => h φ' H' v R' (s.trans s') (p.trans p') r'
  | exn c q S' => exact fun φ' H' cls dd R' s' p' x => h φ' H' cls dd R' (s.trans s') (p.trans p') x
  | stuck => exact h
theorem lift_bnd {m : M α} {k : α → Sto → Res γ} {Q : δ → Hp → Prop} {Q1 : β → Hp → Prop} (R : Rel G F φ ow S env σ H) (h : PostR G F W rq φ ow env σ H ((m env S).bnd k) Q)
    (hk : ∀ a S1 φ1 H1 v, Rel G F φ1 ow S1 env σ H1 → Stp (mutA F φ ow) H (mutA F φ1 ow) H1 → φ <+: φ1 → rp env ow φ1 (mutA F φ1 ow) H1 v a → PostR G F W rq φ1 ow env σ H1 (k a S1) Q → Q1 v H1) : LiftR G F W rp m σ H Q1 := by
  refine ⟨φ, ow, S, env, R, ?_⟩
  cases e : m env S with
  | ok a S1 =>
    rw [e] at h
    have h' : PostR G F W rq φ ow env σ H (k a S1) Q := h
    exact fun φ1 H1 v R1 s1 p1 r1 => hk a S1 φ1 H1 v R1 s1 p1 r1 (h'.go s1 p1)
  | exn c q S1 =>
    rw [e] at h
    exact h
  | stuck =>
    rw [e] at h
    exact h
/-- the last step -/
theorem lift_end {m : M α} {r : Res γ} {Q : δ → Hp → Prop} {Q1 : β → Hp → Prop} {f : α → γ} (R : Rel G F φ ow S env σ H) (h : PostR G F W rq φ ow env σ H r Q) (e : r = (m env S).bnd fun a S1 => .ok (f a) S1)
    (hk : ∀ a S1 φ1 H1 v, Rel G F φ1 ow S1 env σ H1 → Stp (mutA F φ ow) H (mutA F φ1 ow) H1 → φ <+: φ1 → rp env ow φ1 (mutA F φ1 ow) H1 v a → (∀ w, rq env ow φ1 (mutA F φ1 ow) H1 w (f a) → Q w H1) → Q1 v H1) : LiftR G F W rp m σ H Q1 := by
  rw [e] at h
  exact lift_bnd R h fun a S1 φ1 H1 v R1 s1 p1 r1 h1 => hk a S1 φ1 H1 v R1 s1 p1 r1 fun w rw' => h1 φ1 H1 w R1 Stp.refl (List.prefix_refl _) rw'
/-- a result at the heap as it stands -/
theorem PostR.here {a : α} {Q : β → Hp → Prop} (h : PostR G F W rp φ ow env σ H (.ok a S) Q) (R : Rel G F φ ow S env σ H) {v : β} (r : rp env ow φ (mutA F φ ow) H v a) : Q v H := h φ H v R Stp.refl (List.prefix_refl _) r
/-- .. at a grown heap -/
theorem PostR.grown {a : α} {Q : β → Hp → Prop} {H' : Hp} (h : PostR G F W rp φ ow env σ H (.ok a S) Q) (R : Rel G F φ ow S env σ H) (s : Same H H') {v : β} (r : rp env ow φ (mutA F φ ow) H' v a) : Q v H' := h φ H' v (R.same s) (stp_same s) (List.prefix_refl _) r
end

/-! ### readings of results -/
abbrev rpD (G : Gd) : RP D V := fun _ _ φ U H v d => Rep G φ U H v d
/-- a datum, or a list of a name's own as it stands -/
def rpB (G : Gd) : RP D V := fun env ow φ U H v d => Rep G φ U H v d ∨ ∃ (i : Nat) (ds : List D) (a : Addr), d = .lst ds ∧ env[i]? = some (.own ds) ∧ ow.sl[i]? = some (some a) ∧ v = .ref a
abbrev rpL (G : Gd) : RP (List D) (List V) := fun _ _ φ U H vs ds => RepL G φ U H vs ds
abbrev rpE {α : Type} : RP α α := fun _ _ _ _ _ v a => v = a
/-- a value that may be read -/
def RepH (G : Gd) (φ : List Addr) (U : Addr → Prop) (H : Hp) (v : V) (d : D) : Prop := Rep G φ U H v d ∨ ∃ (ds : List D) (a : Addr) (vs : List V), d = .lst ds ∧ v = .ref a ∧ H a = some (.lst vs) ∧ RepL G φ U H vs ds
theorem rpB.h {G : Gd} {F : Fr} {φ : List Addr} {ow : OW} {S : Sto} {env : En} {σ : L2.St} {H : Hp} {v : V} {d : D} (R : Rel G F φ ow S env σ H) (h : rpB G env ow φ (mutA F φ ow) H v d) : RepH G φ (mutA F φ ow) H v d := by
  rcases h with h | ⟨i, ds, a, rfl, h1, h2, rfl⟩
  · exact .inl h
  · obtain ⟨b, vs, e1, e2, e3, e4⟩ := R.own i ds h1
    rw [h2] at e1
    cases e1
    exact .inr ⟨ds, a, vs, rfl, rfl, e3, e4⟩
theorem rpB.st {G : Gd} {φ φ' : List Addr} {ow : OW} {env : En} {U U' : Addr → Prop} {H H' : Hp} {v : V} {d : D} (h : rpB G env ow φ U H v d) (s : Stp U H U' H') (p : φ <+: φ') : rpB G env ow φ' U' H' v d := by
  rcases h with h | h
  · exact .inl (h.st s p)
  · exact .inr h

/-! ### judgements -/
section
variable (X : Cx) (T : List (Addr × Str)) (F : Fr) (W : WX)
def SE (m : M D) (e : Expr) : Prop := PE X e (LiftR (gX X T) F W (rpD (gX X T)) m)
def SB (m : M D) (e : Expr) : Prop := PE X e (LiftR (gX X T) F W (rpB (gX X T)) m)
def SA (m : M (List D)) (es : List Expr) : Prop := PA X es (LiftR (gX X T) F W (rpL (gX X T)) m)
def ST (m : M Bool) (e : Expr) : Prop := PT X e (LiftR (gX X T) F W rpE m)
def SW (m : M Bool) (e : Expr) : Prop := PW X e (LiftR (gX X T) F W rpE m)
def SO (m : M (Option Int)) (e : Option Expr) : Prop := PO X e (LiftR (gX X T) F W rpE m)
end
theorem PE.imp {X : Cx} {e : Expr} {t t' : TE} (h : PE X e t) (i : ∀ σ H Q, t' σ H Q → t σ H Q) : PE X e t' := ⟨fun pins s σ H Q I q => h.run pins s σ H Q I (i σ H Q q)⟩
theorem PT.imp {X : Cx} {e : Expr} {t t' : TT} (h : PT X e t) (i : ∀ σ H Q, t' σ H Q → t σ H Q) : PT X e t' := ⟨fun pins s σ H Q I q => h.run pins s σ H Q I (i σ H Q q)⟩
theorem PW.imp {X : Cx} {e : Expr} {t t' : TT} (h : PW X e t) (i : ∀ σ H Q, t' σ H Q → t σ H Q) : PW X e t' := ⟨fun wh pins s σ H Q I q => h.run wh pins s σ H Q I (i σ H Q q)⟩
theorem PA.imp {X : Cx} {e : List Expr} {t t' : TA} (h : PA X e t) (i : ∀ σ H Q, t' σ H Q → t σ H Q) : PA X e t' := ⟨fun pos pins s σ H Q I q => h.run pos pins s σ H Q I (i σ H Q q)⟩
theorem PO.imp {X : Cx} {e : Option Expr} {t t' : TO} (h : PO X e t) (i : ∀ σ H Q, t' σ H Q → t σ H Q) : PO X e t' := ⟨fun pins s σ H Q I q => h.run pins s σ H Q I (i σ H Q q)⟩

/-! ### plain meanings -/
def oR {α : Type} (o : Option α) (S : Sto) : Res α := match o with
  | some a => .ok a S
  | none => .stuck
def mVar (i : Nat) : M D := fun env S => match env[i]? with
  | some (.val d) => .ok d S
  | _ => .stuck
def mOwn (i : Nat) : M D := fun env S => match env[i]? with
  | some (.own ds) => .ok (.lst ds) S
  | _ => .stuck
def mC {α : Type} (d : α) : M α := fun _ S => .ok d S
def mUn (g : Sto → D → Option D) (ma : M D) : M D := fun env S => (ma env S).bnd fun a S1 => oR (g S1 a) S1
def mOp (g : Sto → D → D → Option D) (ma mb : M D) : M D := fun env S => (ma env S).bnd fun a S1 => (mb env S1).bnd fun b S2 => oR (g S2 a b) S2
def dBool : D → Option Bool
  | .bl b => some b
  | _ => none
def mTest (m : M D) : M Bool := fun env S => (m env S).bnd fun d S1 => oR (dBool d) S1
def mAnd (ma mb : M D) : M D := fun env S => (ma env S).bnd fun a S1 => (oR (dBool a) S1).bnd fun b S2 => if b = true then mb env S2 else .ok (.bl false) S2
def mOr (ma mb : M D) : M D := fun env S => (ma env S).bnd fun a S1 => (oR (dBool a) S1).bnd fun b S2 => if b = true then .ok (.bl true) S2 else mb env S2
def mNot (ma : M D) : M D := fun env S => (ma env S).bnd fun a S1 => (oR (dBool a) S1).bnd fun b S2 => .ok (.bl (!b)) S2
def mAndT (ma mb : M Bool) : M Bool := fun env S => (ma env S).bnd fun b S2 => if b = true then mb env S2 else .ok false S2
def mOrT (ma mb : M Bool) : M Bool := fun env S => (ma env S).bnd fun b S2 => if b = true then .ok true S2 else mb env S2
def mNotT (ma : M Bool) : M Bool := fun env S => (ma env S).bnd fun b S2 => .ok (!b) S2
def mIf {α : Type} (mc : M Bool) (ma mb : M α) : M α := fun env S => (mc env S).bnd fun b S2 => if b = true then ma env S2 else mb env S2
def mNil : M (List D) := fun _ S => .ok [] S
def mCons (ma : M D) (mr : M (List D)) : M (List D) := fun env S => (ma env S).bnd fun a S1 => (mr env S1).bnd fun r S2 => .ok (a :: r) S2
def mTup (m : M (List D)) : M D := fun env S => (m env S).bnd fun ds S1 => if ds.length ≤ 100000 then .ok (.tup ds) S1 else .stuck
def mLst (m : M (List D)) : M D := fun env S => (m env S).bnd fun ds S1 => if ds.length ≤ 100000 then .ok (.lst ds) S1 else .stuck

section
variable {X : Cx} {T : List (Addr × Str)} {F : Fr} {W : WX} {e a b : Expr} {es : List Expr} {pos : Pos} {ma mb : M D}
theorem sz5 {n : Nat} (h : n ≤ 100000) : n ≤ sizeLine := Nat.le_trans h (by decide)
theorem sb_of (h : SE X T F W ma e) : SB X T F W ma e := PE.imp h fun σ H Q ⟨φ, ow, S, env, R, q⟩ => ⟨φ, ow, S, env, R, by
  cases e : ma env S with
  | ok a S1 =>
    rw [e] at q
    exact fun φ1 H1 v R1 s1 p1 r1 => q φ1 H1 v R1 s1 p1 (.inl r1)
  | exn c p S1 => rw [e] at q; exact q
  | stuck => rw [e] at q; exact q⟩
theorem se_c {d : D} {v : V} (h : PE X e (tC v)) (r : ∀ φ U H, Rep (gX X T) φ U H v d) : SE X T F W (mC d) e := PE.imp h fun σ H Q ⟨φ, ow, S, env, R, q⟩ => PostR.here q R (r _ _ _)
theorem se_int {i : Int} {j : Nat} : SE X T F W (mC (.int i)) (.Constant (.int i) j pos) := se_c pe_int fun _ _ _ => .int _
theorem se_bl {i : Bool} {j : Nat} : SE X T F W (mC (.bl i)) (.Constant (.bool i) j pos) := se_c pe_bl fun _ _ _ => .bl _
theorem se_non {j : Nat} : SE X T F W (mC .non) (.Constant .none j pos) := se_c pe_non fun _ _ _ => .non
theorem se_str {x : Str} {j : Nat} : SE X T F W (mC (.str x)) (.Constant (.str x) j pos) := se_c pe_str fun _ _ _ => .str _
/-- what a module's name stands for -/
theorem se_glo {x : Str} {u : Value} {v : V} (hg : Gl X x) (hm : X.mg x = some u) (r : RelV v u) (hd : (x == ("__debug__" : Str)) = false := by decide) : SE X T F W (mC (.glo x)) (.Name x pos) :=
  se_c (pe_glob hg hm r hd) fun _ _ _ => .glo hm r
theorem se_gloC {x : Str} {u : Value} {v : V} {d : D} (hg : Gl X x) (hm : X.mg x = some u) (r : RelV v u) (hr : ∀ φ U H, Rep (gX X T) φ U H v d) (hd : (x == ("__debug__" : Str)) = false := by decide) : SE X T F W (mC d) (.Name x pos) :=
  se_c (pe_glob hg hm r hd) hr
theorem se_var (i : Nat) {x : Str} (hN : X.N[i]? = some x := by rfl) (hv : Vis X.env.scope x := by first | exact Or.inl rfl | exact Or.inr (Or.inl rfl) | exact Or.inr (Or.inr rfl)) (hd : (x == ("__debug__" : Str)) = false := by decide)
    (hcd : (x == ("__classdict__" : Str)) = false := by decide) : SE X T F W (mVar i) (.Name x pos) := PE.imp (pe_var hN hv hd hcd) fun σ H Q ⟨φ, ow, S, env, R, q⟩ => by
  unfold mVar at q
  split at q
  · rename_i d hd
    obtain ⟨v, h1, h2⟩ := R.slot i d hd
    exact ⟨v, h1, PostR.here q R h2⟩
  · exact q.elim
/-- a list of a name's own, to be read at once -/
theorem sb_own (i : Nat) {x : Str} (hN : X.N[i]? = some x := by rfl) (hv : Vis X.env.scope x := by first | exact Or.inl rfl | exact Or.inr (Or.inl rfl) | exact Or.inr (Or.inr rfl)) (hd : (x == ("__debug__" : Str)) = false := by decide)
    (hcd : (x == ("__classdict__" : Str)) = false := by decide) : SB X T F W (mOwn i) (.Name x pos) := PE.imp (pe_var hN hv hd hcd) fun σ H Q ⟨φ, ow, S, env, R, q⟩ => by
  unfold mOwn at q
  split at q
  · rename_i ds hd
    obtain ⟨a, vs, h1, h2, h3, h4⟩ := R.own i ds hd
    exact ⟨.ref a, h2, PostR.here q R (.inr ⟨i, ds, a, rfl, hd, h1, rfl⟩)⟩
  · exact q.elim
/-- an operator's rule by data -/
def OpD (G : Gd) (r : R2) (g : Sto → D → D → Option D) : Prop := ∀ (φ : List Addr) (U : Addr → Prop) (H : Hp) (S : Sto) (v1 v2 : V) (d1 d2 d : D) (Q : VK), (∀ (n : Nat) c, S[n]? = some c → ∃ a, φ[n]? = some a ∧ RepC G φ U H a c) →
  (∀ a, U a → H a ≠ none) → RepH G φ U H v1 d1 → RepH G φ U H v2 d2 → g S d1 d2 = some d → (∀ v H', Same H H' → Rep G φ U H' v d → Q v H') → r v1 v2 H Q
def UnD (G : Gd) (r : V → Hp → VK → Prop) (g : Sto → D → Option D) : Prop := ∀ (φ : List Addr) (U : Addr → Prop) (H : Hp) (S : Sto) (v1 : V) (d1 d : D) (Q : VK), (∀ (n : Nat) c, S[n]? = some c → ∃ a, φ[n]? = some a ∧ RepC G φ U H a c) →
  (∀ a, U a → H a ≠ none) → RepH G φ U H v1 d1 → g S d1 = some d → (∀ v H', Same H H' → Rep G φ U H' v d → Q v H') → r v1 H Q
theorem lift_op {G : Gd} {r : R2} {g : Sto → D → D → Option D} (ho : OpD G r g) (σ : L2.St) (H : Hp) (Q : VK) (h : LiftR G F W (rpD G) (mOp g ma mb) σ H Q) : tOp r (LiftR G F W (rpB G) ma) (LiftR G F W (rpB G) mb) σ H Q := by
  obtain ⟨φ, ow, S, env, R, q⟩ := h
  refine lift_bnd R q fun d1 S1 φ1 H1 v1 R1 s1 p1 r1 q1 => lift_bnd R1 q1 fun d2 S2 φ2 H2 v2 R2 s2 p2 r2 q2 => ?_
  cases hg : g S2 d1 d2 with
  | none => rw [hg] at q2; exact q2.elim
  | some d =>
    rw [hg] at q2
    exact ho φ2 _ H2 S2 v1 v2 d1 d2 d Q R2.cells (fun a => R2.mutT) ((r1.st s2 p2).h R2) (r2.h R2) hg fun v H' sm rp => PostR.grown q2 R2 sm rp
theorem lift_un {G : Gd} {r : V → Hp → VK → Prop} {g : Sto → D → Option D} (ho : UnD G r g) (σ : L2.St) (H : Hp) (Q : VK) (h : LiftR G F W (rpD G) (mUn g ma) σ H Q) : tUn r (LiftR G F W (rpB G) ma) σ H Q := by
  obtain ⟨φ, ow, S, env, R, q⟩ := h
  refine lift_bnd R q fun d1 S1 φ1 H1 v1 R1 s1 p1 r1 q1 => ?_
  cases hg : g S1 d1 with
  | none => rw [hg] at q1; exact q1.elim
  | some d =>
    rw [hg] at q1
    exact ho φ1 _ H1 S1 v1 d1 d Q R1.cells (fun a => R1.mutT) (r1.h R1) hg fun v H' sm rp => PostR.grown q1 R1 sm rp
theorem se_op {op : Operator} {r : R2} {g : Sto → D → D → Option D} (ho : OpR X (binaryOp op) r) (hd : OpD (gX X T) r g) (ha : SB X T F W ma a) (hb : SB X T F W mb b) : SE X T F W (mOp g ma mb) (.BinOp a op b pos) :=
  PE.imp (pe_op ho ha hb) (lift_op hd)
theorem se_un {op : UnaryOp} {r : V → Hp → VK → Prop} {g : Sto → D → Option D} (ho : UnR X (unaryOp op) r) (hd : UnD (gX X T) r g) (ha : SB X T F W ma a) : SE X T F W (mUn g ma) (.UnaryOp op a pos) :=
  PE.imp (pe_un ho ha) (lift_un hd)
theorem se_cmp {op : CmpOp} {r : R2} {g : Sto → D → D → Option D} (ho : OpR X (compareOp op) r) (hd : OpD (gX X T) r g) (ha : SB X T F W ma a) (hb : SB X T F W mb b) (hm : behindInMarks op b = false) : SE X T F W (mOp g ma mb) (.Compare a [op] [b] pos) :=
  PE.imp (pe_cmpR ho ha hb hm) (lift_op hd)
theorem se_ix {r : R2} {g : Sto → D → D → Option D} (ho : IxR X r) (hd : OpD (gX X T) r g) (ha : SB X T F W ma a) (hb : SB X T F W mb b) (hs : PlainIx b) : SE X T F W (mOp g ma mb) (.Subscript a b pos) :=
  PE.imp (pe_ix ho ha hb hs) (lift_op hd)
theorem lift_test {G : Gd} {t : TE} (ht : ∀ σ H Q, LiftR G F W (rpD G) ma σ H Q → t σ H Q) (σ : L2.St) (H : Hp) (Q : Bool → Hp → Prop) (h : LiftR G F W rpE (mTest ma) σ H Q) : t σ H fun x H' => ∃ k, x = .bl k ∧ Q k H' := by
  obtain ⟨φ, ow, S, env, R, q⟩ := h
  refine ht _ _ _ (lift_bnd R q fun d S1 φ1 H1 v R1 s1 p1 r1 q1 => ?_)
  cases d with
  | bl k => exact ⟨k, r1.ofBl, PostR.here q1 R1 rfl⟩
  | _ => exact q1.elim
theorem st_cmp {op : CmpOp} {r : R2} {g : Sto → D → D → Option D} (ho : OpR X (compareOp op) r) (hd : OpD (gX X T) r g) (ha : SB X T F W ma a) (hb : SB X T F W mb b) (hm : behindInMarks op b = false) : ST X T F W (mTest (mOp g ma mb)) (.Compare a [op] [b] pos) :=
  PT.imp (pt_cmpR ho ha hb hm) fun σ H Q h => lift_test (lift_op hd) σ H Q h
theorem st_val (h : SE X T F W ma e) (he : ∀ whole, isTrue e X.env whole = (do let v ← whole; standAt e.pos; holding [v] (truthy v)) := by intro _; rfl) : ST X T F W (mTest ma) e :=
  PT.imp (pt_val h he) fun σ H Q h => lift_test (fun _ _ _ z => z) σ H Q h
variable {na nb : M Bool} {rest : List Expr}
theorem sw_and1 (ha : ST X T F W na a) : SW X T F W na (.BoolOp .And [a] pos) := pw_and1 ha
theorem sw_or1 (ha : ST X T F W na a) : SW X T F W na (.BoolOp .Or [a] pos) := pw_or1 ha
theorem sw_and (ha : ST X T F W na a) (hb : SW X T F W nb (.BoolOp .And (b :: rest) pos)) : SW X T F W (mAndT na nb) (.BoolOp .And (a :: b :: rest) pos) :=
  PW.imp (pw_and ha hb) fun σ H Q ⟨φ, ow, S, env, R, q⟩ => lift_bnd R q fun k S1 φ1 H1 v R1 s1 p1 r1 q1 => by
    subst r1
    cases v with
    | true => exact ⟨φ1, ow, S1, env, R1, q1⟩
    | false => exact PostR.here (a := false) q1 R1 rfl
theorem sw_or (ha : ST X T F W na a) (hb : SW X T F W nb (.BoolOp .Or (b :: rest) pos)) : SW X T F W (mOrT na nb) (.BoolOp .Or (a :: b :: rest) pos) :=
  PW.imp (pw_or ha hb) fun σ H Q ⟨φ, ow, S, env, R, q⟩ => lift_bnd R q fun k S1 φ1 H1 v R1 s1 p1 r1 q1 => by
    subst r1
    cases v with
    | false => exact ⟨φ1, ow, S1, env, R1, q1⟩
    | true => exact PostR.here (a := true) q1 R1 rfl
theorem st_w (h : SW X T F W na e) : ST X T F W na e := PW.pt h
theorem st_not (ha : ST X T F W na a) : ST X T F W (mNotT na) (.UnaryOp .Not a pos) :=
  PT.imp (pt_not ha) fun σ H Q ⟨φ, ow, S, env, R, q⟩ => lift_bnd R q fun k S1 φ1 H1 v R1 s1 p1 r1 q1 => by
    subst r1
    exact PostR.here q1 R1 rfl
theorem se_one {op} (h : SE X T F W ma a) : SE X T F W ma (.BoolOp op [a] pos) := pe_one h
theorem se_and (ha : SE X T F W ma a) (hb : SE X T F W mb (.BoolOp .And (b :: rest) pos)) : SE X T F W (mAnd ma mb) (.BoolOp .And (a :: b :: rest) pos) :=
  PE.imp (pe_and ha hb) fun σ H Q ⟨φ, ow, S, env, R, q⟩ => lift_bnd R q fun d S1 φ1 H1 v R1 s1 p1 r1 q1 => by
    cases d with
    | bl k =>
      cases k with
      | true => exact ⟨true, r1.ofBl, ⟨φ1, ow, S1, env, R1, q1⟩⟩
      | false => exact ⟨false, r1.ofBl, PostR.here (a := D.bl false) q1 R1 (.bl _)⟩
    | _ => exact q1.elim
theorem se_or (ha : SE X T F W ma a) (hb : SE X T F W mb (.BoolOp .Or (b :: rest) pos)) : SE X T F W (mOr ma mb) (.BoolOp .Or (a :: b :: rest) pos) :=
  PE.imp (pe_or ha hb) fun σ H Q ⟨φ, ow, S, env, R, q⟩ => lift_bnd R q fun d S1 φ1 H1 v R1 s1 p1 r1 q1 => by
    cases d with
    | bl k =>
      cases k with
      | false => exact ⟨false, r1.ofBl, ⟨φ1, ow, S1, env, R1, q1⟩⟩
      | true => exact ⟨true, r1.ofBl, PostR.here (a := D.bl true) q1 R1 (.bl _)⟩
    | _ => exact q1.elim
theorem se_not (ha : SE X T F W ma a) : SE X T F W (mNot ma) (.UnaryOp .Not a pos) :=
  PE.imp (pe_not ha) fun σ H Q ⟨φ, ow, S, env, R, q⟩ => lift_bnd R q fun d S1 φ1 H1 v R1 s1 p1 r1 q1 => by
    cases d with
    | bl k => exact ⟨k, r1.ofBl, PostR.here (a := D.bl (!k)) q1 R1 (.bl _)⟩
    | _ => exact q1.elim
theorem se_if {c : Expr} (hc : ST X T F W na c) (ha : SE X T F W ma a) (hb : SE X T F W mb b) : SE X T F W (mIf na ma mb) (.IfExp c a b pos) :=
  PE.imp (pe_ifExp hc ha hb) fun σ H Q ⟨φ, ow, S, env, R, q⟩ => lift_bnd R q fun k S1 φ1 H1 v R1 s1 p1 r1 q1 => by
    subst r1
    cases v with
    | true => exact ⟨φ1, ow, S1, env, R1, q1⟩
    | false => exact ⟨φ1, ow, S1, env, R1, q1⟩
variable {ml : M (List D)}
theorem sa_nil : SA X T F W mNil [] := PA.imp pa_nil fun σ H Q ⟨φ, ow, S, env, R, q⟩ => PostR.here (a := ([] : List D)) q R .nil
theorem sa_cons (ha : SE X T F W ma a) (hr : SA X T F W ml es) (hs : starEach (a :: es) X.env = (false, eval a X.env) :: starEach es X.env := by rfl) : SA X T F W (mCons ma ml) (a :: es) :=
  PA.imp (pa_cons ha hr hs) fun σ H Q ⟨φ, ow, S, env, R, q⟩ => lift_bnd R q fun d S1 φ1 H1 v R1 s1 p1 r1 q1 => lift_bnd R1 q1 fun ds S2 φ2 H2 vs R2 s2 p2 r2 q2 => PostR.here (a := d :: ds) q2 R2 (.cons (r1.st s2 p2) r2)
theorem se_tup {k : Nat} (h : SA X T F W ml es) : SE X T F W (mTup ml) (.Tuple es k pos) :=
  PE.imp (pe_tup h) fun σ H Q ⟨φ, ow, S, env, R, q⟩ => lift_bnd R q fun ds S1 φ1 H1 vs R1 s1 p1 r1 q1 => by
    split at q1
    · rename_i hz
      refine ⟨by rw [r1.length]; exact sz5 hz, fun p hp => ?_⟩
      exact PostR.grown q1 R1 (same_upd hp) (.tup upd_same (R1.fresh hp) (r1.st (stp_same (same_upd hp)) (List.prefix_refl _)))
    · exact q1.elim
theorem se_lst (h : SA X T F W ml es) : SE X T F W (mLst ml) (.List es pos) :=
  PE.imp (pe_lst h) fun σ H Q ⟨φ, ow, S, env, R, q⟩ => lift_bnd R q fun ds S1 φ1 H1 vs R1 s1 p1 r1 q1 => by
    split at q1
    · rename_i hz
      refine ⟨by rw [r1.length]; exact sz5 hz, fun p hp => ?_⟩
      exact PostR.grown q1 R1 (same_upd hp) (.lst upd_same (R1.fresh hp) (r1.st (stp_same (same_upd hp)) (List.prefix_refl _)))
    · exact q1.elim
end
end DL
set_option Elab.async false
set_option linter.all false
set_option maxRecDepth 100000
set_option maxHeartbeats 4000000
/-! DLa: tuple * int, whatever the int -/
namespace DL
open PySem PySem.Spec PyProof.Rows L2
theorem tuple_mulSelf (l : Addr) (items : Array Value) (n : Nat) (dd : Option Addr) (sl : Array (Option Value)) (x : Int) (u : Tok) (c0 : (decide (x < -(2 ^ 63)) || decide (x ≥ 2 ^ 63)) = false) (c1 : (items.isEmpty || x == 1) = true) :
    Meets (Builtin.«tuple.__mul__» ⟨[.ref l, .int x u], []⟩) (fun _ R s => s.heap.get? l = some { cls := .type "tuple", dict := dd, data := .seq items n, slots := sl } ∧
      R (.ok (.ret (Value.ref l))) { s with heap := s.heap, toks := s.toks }) :=
  .of_wp fun prog w A R s h => by
    obtain ⟨hp, g, d, tk, os⟩ := s
    obtain ⟨hl, h⟩ := h
    have f1 := AutoSeq1.idx_int
    wp_walk using wpAny_loadPart' hl
    repeat (first
      | (refine wpAny_ite_false (decide_eq_false (by rw [c0]; exact Bool.false_ne_true)) ?_; wp_walk using wpAny_loadPart' hl)
      | (refine wpAny_ite_true (decide_eq_true c1) ?_; wp_walk using wpAny_loadPart' hl))
    exact ⟨_, rfl, h⟩
theorem tuple_mulNil (l : Addr) (items : Array Value) (n : Nat) (dd : Option Addr) (sl : Array (Option Value)) (x : Int) (u : Tok) (c0 : (decide (x < -(2 ^ 63)) || decide (x ≥ 2 ^ 63)) = false) (c1 : (items.isEmpty || x == 1) = false) (c2 : (decide (x ≤ 0) || items.isEmpty) = true) :
    Meets (Builtin.«tuple.__mul__» ⟨[.ref l, .int x u], []⟩) (fun _ R s => s.heap.get? l = some { cls := .type "tuple", dict := dd, data := .seq items n, slots := sl } ∧
      R (.ok (.ret (Value.ref s.heap.objs.size))) { s with heap := s.heap.push { cls := Value.type "tuple", data := Data.seq #[] }, toks := s.toks }) :=
  .of_wp fun prog w A R s h => by
    obtain ⟨hp, g, d, tk, os⟩ := s
    obtain ⟨hl, h⟩ := h
    have f1 := AutoSeq1.idx_int
    wp_walk using wpAny_loadPart' hl
    repeat (first
      | (refine wpAny_ite_false (decide_eq_false (by rw [c0]; exact Bool.false_ne_true)) ?_; wp_walk using wpAny_loadPart' hl)
      | (refine wpAny_ite_false (decide_eq_false (by rw [c1]; exact Bool.false_ne_true)) ?_; wp_walk using wpAny_loadPart' hl)
      | (refine wpAny_ite_true (decide_eq_true c2) ?_; wp_walk using wpAny_loadPart' hl))
    exact ⟨_, rfl, h⟩
/-- t * k -/
def rRepA (K : PySem.W.Frag) : R2 := fun x y H Q => ∃ l k xs, x = .ref l ∧ y = .int k ∧ SqT K H l xs ∧ -1000 ≤ k ∧ k ≤ 1000 ∧ xs.length ≤ 1000 ∧
  (xs = [] ∨ k = 1 → Q (.ref l) H) ∧ (xs ≠ [] → k ≠ 1 → ∀ p, H p = none → Q (.ref p) (upd H p (.tup (List.replicate k.toNat xs).flatten)))
section
variable {X : Cx}
theorem op_repA : OpR X (binaryOp .Mult) (rRepA X.K) := by
  intro pins s σ H x y v u Q I rx ry h
  obtain ⟨l, k, xs, rfl, rfl, hT, h1, h2, hz, q1, q2⟩ := h
  have c0 : (decide (k < -(2 ^ 63)) || decide (k ≥ 2 ^ 63)) = false := by
    rw [decide_eq_false (by omega), decide_eq_false (by omega)] <;> rfl
  by_cases hs1 : xs = [] ∨ k = 1
  · cases rx
    obtain ⟨t, rfl⟩ := ry
    obtain ⟨its, r, ⟨⟨cls, dd, data, sl⟩, ho, hc, n, hd⟩, hs⟩ := I.tuple hT
    simp only at hc hd
    subst hc hd
    have c1 : (its.toArray.isEmpty || k == 1) = true := by
      rcases hs1 with e | e
      · subst e
        cases r
        rfl
      · rw [e]
        simp
    refine wpAny_binaryOp_repeat_ref (T := "tuple") (U := "int") (by decide) ⟨_, ho, rfl⟩ (fun s' => typeIs_int s' k t) noFill_tuple_mul F.fills_int_mul F.slot_int_rmul repeat_tuple F.slot_int_index.lookup
      (call_meets F.slot_int_rmul (typeIs_int s k t) F.entry_int_rmul (F.args_int_rmul_2 _ _) (int_rmul_tuple k t l its.toArray n dd sl)
        ⟨ho, rfl, ⟨_, ho, rfl⟩, call_meets F.slot_tuple_mul ⟨_, ho, rfl⟩ F.entry_tuple_mul (F.args_tuple_mul_2 _ _) (tuple_mulSelf l its.toArray n dd sl k t c0 c1) ⟨ho, ?_⟩⟩)
    exact ⟨.ref l, H, I, rfl, q1 hs1⟩
  · have hne : xs ≠ [] := fun e => hs1 (.inl e)
    have hk1 : k ≠ 1 := fun e => hs1 (.inr e)
    by_cases hk : 2 ≤ k
    · exact op_repT pins s σ H _ _ v u Q I rx ry ⟨l, k, xs, rfl, rfl, hT, hne, hk, h2, hz, q2 hne hk1⟩
    · cases rx
      obtain ⟨t, rfl⟩ := ry
      obtain ⟨its, r, ⟨⟨cls, dd, data, sl⟩, ho, hc, n, hd⟩, hs⟩ := I.tuple hT
      simp only at hc hd
      subst hc hd
      have hi : its.toArray.isEmpty = false := by
        cases its with
        | nil => cases r; exact absurd rfl hne
        | cons a b => rfl
      have c1 : (its.toArray.isEmpty || k == 1) = false := by
        rw [hi, Bool.false_or]
        exact beq_eq_false_iff_ne.mpr hk1
      have c2 : (decide (k ≤ 0) || its.toArray.isEmpty) = true := by
        rw [hi, Bool.or_false]
        exact decide_eq_true (by omega)
      have e0 : (List.replicate k.toNat xs).flatten = [] := by
        have : k.toNat = 0 := by omega
        rw [this]; rfl
      rw [e0] at q2
      refine wpAny_binaryOp_repeat_ref (T := "tuple") (U := "int") (by decide) ⟨_, ho, rfl⟩ (fun s' => typeIs_int s' k t) noFill_tuple_mul F.fills_int_mul F.slot_int_rmul repeat_tuple F.slot_int_index.lookup
        (call_meets F.slot_int_rmul (typeIs_int s k t) F.entry_int_rmul (F.args_int_rmul_2 _ _) (int_rmul_tuple k t l its.toArray n dd sl)
          ⟨ho, rfl, ⟨_, ho, rfl⟩, call_meets F.slot_tuple_mul ⟨_, ho, rfl⟩ F.entry_tuple_mul (F.args_tuple_mul_2 _ _) (tuple_mulNil l its.toArray n dd sl k t c0 c1 c2) ⟨ho, ?_⟩⟩)
      refine ⟨.ref s.heap.objs.size, _, I.laid (t' := s.toks) (o := .tup []) (fun b ob q => Heap.get?_push_of_some _ q) (Nat.le_refl _) ?_, rfl, q2 hne hk1 _ (I.hok.fresh (Nat.le_refl _))⟩
      exact ⟨Nat.zero_le _, [], .nil, IsTup.new _ _⟩
end
end DL
set_option Elab.async false
set_option linter.all false
set_option maxRecDepth 100000
/-! DL3: operators by data -/
namespace DL
open PySem PySem.Spec PyProof.Rows L2

def lsOf (S : Sto) : D → Option (List D)
  | .lst ds => some ds
  | .ref n => match S[n]? with
    | some (.lst ds) => some ds
    | _ => none
  | _ => none
def cutL {α : Type} (xs : List α) (lo hi : Option Int) : List α := (xs.drop (HT.sIx xs.length 0 lo)).take (HT.sIx xs.length xs.length hi - HT.sIx xs.length 0 lo)
theorem cutL_V (xs : List V) (lo hi : Option Int) : cutL xs lo hi = cutV xs lo hi := rfl

abbrev CellsOk (G : Gd) (φ : List Addr) (U : Addr → Prop) (H : Hp) (S : Sto) : Prop := ∀ (n : Nat) c, S[n]? = some c → ∃ a, φ[n]? = some a ∧ RepC G φ U H a c
section
variable {G : Gd} {φ : List Addr} {U : Addr → Prop} {H : Hp} {S : Sto} {v : V} {d : D}
theorem RepH.ls {ds : List D} (h : RepH G φ U H v d) (hc : CellsOk G φ U H S) (e : lsOf S d = some ds) : ∃ a vs, v = .ref a ∧ H a = some (.lst vs) ∧ RepL G φ U H vs ds := by
  rcases h with h | ⟨es, a, vs, rfl, rfl, h1, h2⟩
  · cases d with
    | lst es =>
      cases e
      obtain ⟨a, vs, h1, h2, _, h3⟩ := h.ofLst
      exact ⟨a, vs, h1, h2, h3⟩
    | ref n =>
      have e : (match S[n]? with
        | some (.lst ds) => some ds
        | _ => none) = some ds := e
      cases h with
      | ref ha =>
        cases hs : S[n]? with
        | none => rw [hs] at e; cases e
        | some c =>
          rw [hs] at e
          cases c with
          | ins => cases e
          | lst es =>
            cases e
            obtain ⟨a, h1, h2⟩ := hc n _ hs
            rw [ha] at h1
            cases h1
            cases h2 with
            | lst q1 q2 => exact ⟨_, _, rfl, q1, q2⟩
    | _ => cases e
  · cases e
    exact ⟨a, vs, rfl, h1, h2⟩
theorem RepH.rep (h : RepH G φ U H v d) (e : ∀ ds, d ≠ .lst ds) : Rep G φ U H v d := by
  rcases h with h | ⟨es, a, vs, rfl, _⟩
  · exact h
  · exact absurd rfl (e es)
theorem RepH.int {i : Int} (h : RepH G φ U H v (.int i)) : v = .int i := (h.rep (fun _ z => by cases z)).ofInt
theorem RepH.bl {i : Bool} (h : RepH G φ U H v (.bl i)) : v = .bl i := (h.rep (fun _ z => by cases z)).ofBl
theorem RepH.str {i : Str} (h : RepH G φ U H v (.str i)) : v = .str i := (h.rep (fun _ z => by cases z)).ofStr
theorem RepH.non (h : RepH G φ U H v .non) : v = .non := (h.rep (fun _ z => by cases z)).ofNon
theorem RepH.tup {ds : List D} (h : RepH G φ U H v (.tup ds)) : ∃ a vs, v = .ref a ∧ SqT G.K H a vs ∧ RepL G φ U H vs ds := (h.rep (fun _ z => by cases z)).ofTup
theorem RepH.scr {ns : List Int} (h : RepH G φ U H v (.scr ns)) : ∃ a, v = .ref a ∧ SqL G.K H a (ns.map V.int) := (h.rep (fun _ z => by cases z)).ofScr
theorem RepL.cut {vs : List V} {ds : List D} (h : RepL G φ U H vs ds) (lo hi : Option Int) : RepL G φ U H (cutL vs lo hi) (cutL ds lo hi) := by
  unfold cutL
  rw [h.length]
  exact (h.drop _).take _
theorem RepL.at {vs : List V} {ds : List D} {i : Int} {d : D} (h : RepL G φ U H vs ds) (e : atI ds i = some d) : ∃ v, atI vs i = some v ∧ Rep G φ U H v d := by
  unfold atI at e ⊢
  rw [h.length]
  cases q : ixN ds.length i with
  | none => rw [q] at e; cases e
  | some j =>
    rw [q] at e
    exact h.get (i := j) e
theorem RepL.rep {vs : List V} {ds : List D} (h : RepL G φ U H vs ds) (n : Nat) : RepL G φ U H (List.replicate n vs).flatten (List.replicate n ds).flatten := by
  induction n with
  | zero => exact .nil
  | succ n ih =>
    rw [List.replicate_succ, List.replicate_succ, List.flatten_cons, List.flatten_cons]
    exact h.app ih
/-- a new tuple, a new list -/
theorem rep_newT {vs : List V} {ds : List D} {p : Addr} (hU : ∀ a, U a → H a ≠ none) (h : RepL G φ U H vs ds) (hp : H p = none) : Rep G φ U (upd H p (.tup vs)) (.ref p) (.tup ds) :=
  .tup upd_same (fun z => hU p z hp) (h.st (stp_same (same_upd hp)) (List.prefix_refl _))
theorem rep_newL {vs : List V} {ds : List D} {p : Addr} (hU : ∀ a, U a → H a ≠ none) (h : RepL G φ U H vs ds) (hp : H p = none) : Rep G φ U (upd H p (.lst vs)) (.ref p) (.lst ds) :=
  .lst upd_same (fun z => hU p z hp) (h.st (stp_same (same_upd hp)) (List.prefix_refl _))
end

/-! ### + - * % // ** -/
def dAdd (S : Sto) : D → D → Option D
  | .int i, .int j => some (.int (i + j))
  | .str x, .str y => if x.length + y.length ≤ 100000 then some (.str (x ++ y)) else none
  | .tup a, .tup b => if a.length + b.length ≤ 100000 then some (.tup (a ++ b)) else none
  | d, e => match lsOf S d, lsOf S e with
    | some a, some b => if a.length + b.length ≤ 100000 then some (.lst (a ++ b)) else none
    | _, _ => none
def rAddA (K : PySem.W.Frag) : R2 := fun x y H Q => (((rI0 fun i j => .int (i + j)) x y H Q ∨ (∃ i j, x = .str i ∧ y = .str j ∧ i.length + j.length ≤ sizeLine ∧ Q (.str (i ++ j)) H)) ∨ rCatA K x y H Q) ∨ rCat x y H Q
theorem op_addA {X : Cx} : OpR X (binaryOp .Add) (rAddA X.K) := ((op_add.or op_add_str).or op_catA).or op_cat
theorem od_add {G : Gd} : OpD G (rAddA G.K) dAdd := by
  intro φ U H S v1 v2 d1 d2 d Q hc hU h1 h2 e q
  have fin : ∀ {a b}, lsOf S d1 = some a → lsOf S d2 = some b → a.length + b.length ≤ 100000 → some (D.lst (a ++ b)) = some d → rAddA G.K v1 v2 H Q := fun {a b} e1 e2 hz ed => by
    obtain ⟨p1, vs, rfl, k1, r1⟩ := h1.ls hc e1
    obtain ⟨p2, ws, rfl, k2, r2⟩ := h2.ls hc e2
    cases ed
    exact .inr ⟨p1, p2, vs, ws, rfl, rfl, k1, k2, by rw [r1.length, r2.length]; exact sz5 hz, fun p hp => q _ _ (same_upd hp) (rep_newL hU (r1.app r2) hp)⟩
  have gen : (match lsOf S d1, lsOf S d2 with
    | some a, some b => if a.length + b.length ≤ 100000 then some (D.lst (a ++ b)) else none
    | _, _ => none) = some d → rAddA G.K v1 v2 H Q := fun e => by
    split at e
    · rename_i a b e1 e2
      split at e
      · rename_i hz
        exact fin e1 e2 hz e
      · cases e
    · cases e
  unfold dAdd at e
  split at e
  · cases e
    exact .inl (.inl (.inl ⟨_, _, h1.int, h2.int, q _ _ (Same.refl _) (.int _)⟩))
  · split at e
    · rename_i hz
      cases e
      exact .inl (.inl (.inr ⟨_, _, h1.str, h2.str, sz5 hz, q _ _ (Same.refl _) (.str _)⟩))
    · cases e
  · split at e
    · rename_i a b hz
      cases e
      obtain ⟨p1, vs, rfl, k1, r1⟩ := h1.tup
      obtain ⟨p2, ws, rfl, k2, r2⟩ := h2.tup
      have g1 := h1.rep (fun _ z => by cases z)
      have g2 := h2.rep (fun _ z => by cases z)
      refine .inl (.inr ⟨p1, p2, vs, ws, rfl, rfl, k1, k2, by rw [r1.length, r2.length]; exact sz5 hz, fun e0 => ?_, fun _ e0 => ?_, fun _ _ p hp => q _ _ (same_upd hp) (rep_newT hU (r1.app r2) hp)⟩)
      · subst e0
        cases r1
        exact q _ _ (Same.refl _) g2
      · subst e0
        cases r2
        rw [List.append_nil] at q
        exact q _ _ (Same.refl _) g1
    · cases e
  · exact gen e
def dSub (_ : Sto) : D → D → Option D
  | .int i, .int j => some (.int (i - j))
  | _, _ => none
theorem od_sub {G : Gd} : OpD G (rI0 fun i j => .int (i - j)) dSub := by
  intro φ U H S v1 v2 d1 d2 d Q hc hU h1 h2 e q
  unfold dSub at e
  split at e
  · cases e
    exact ⟨_, _, h1.int, h2.int, q _ _ (Same.refl _) (.int _)⟩
  · cases e
/-- ints with a bounded factor; a tuple, a list so often -/
def dMul (S : Sto) : D → D → Option D
  | .int i, .int j => if (-(2 ^ 64) < i ∧ i < 2 ^ 64) ∨ (-(2 ^ 64) < j ∧ j < 2 ^ 64) then some (.int (i * j)) else none
  | .tup a, .int k => if -1000 ≤ k ∧ k ≤ 1000 ∧ a.length ≤ 1000 then some (.tup (List.replicate k.toNat a).flatten) else none
  | d, .int k => match lsOf S d with
    | some a => if -1000 ≤ k ∧ k ≤ 1000 ∧ a.length ≤ 1000 then some (.lst (List.replicate k.toNat a).flatten) else none
    | none => none
  | _, _ => none
def rMulA (K : PySem.W.Frag) : R2 := fun x y H Q => (rI CMul (fun i j => .int (i * j)) x y H Q ∨ rRepA K x y H Q) ∨ rRep x y H Q
theorem op_mulA {X : Cx} : OpR X (binaryOp .Mult) (rMulA X.K) := (op_mul.or op_repA).or op_rep
theorem flat_one {α : Type} (a : List α) : (List.replicate 1 a).flatten = a := by simp
theorem flat_nil {α : Type} (n : Nat) : (List.replicate n ([] : List α)).flatten = [] := by simp
theorem od_mul {G : Gd} : OpD G (rMulA G.K) dMul := by
  intro φ U H S v1 v2 d1 d2 d Q hc hU h1 h2 e q
  unfold dMul at e
  split at e
  · split at e
    · rename_i hz
      cases e
      exact .inl (.inl ⟨_, _, h1.int, h2.int, hz, q _ _ (Same.refl _) (.int _)⟩)
    · cases e
  · rename_i a k
    split at e
    · rename_i hz
      cases e
      obtain ⟨p1, vs, rfl, k1, r1⟩ := h1.tup
      have g1 := h1.rep (fun _ z => by cases z)
      refine .inl (.inr ⟨p1, k, vs, rfl, h2.int, k1, hz.1, hz.2.1, by rw [r1.length]; exact hz.2.2, fun e0 => ?_, fun _ _ p hp => q _ _ (same_upd hp) (rep_newT hU (r1.rep _) hp)⟩)
      rcases e0 with e0 | e0
      · subst e0
        cases r1
        rw [flat_nil] at q
        exact q _ _ (Same.refl _) g1
      · subst e0
        rw [show (1 : Int).toNat = 1 from rfl, flat_one] at q
        exact q _ _ (Same.refl _) g1
    · cases e
  · rename_i d1 k hn hn2
    split at e
    · rename_i a e1
      split at e
      · rename_i hz
        cases e
        obtain ⟨p1, vs, rfl, k1, r1⟩ := h1.ls hc e1
        refine .inr ⟨p1, k, vs, rfl, h2.int, k1, by omega, by omega, ?_, fun p hp => q _ _ (same_upd hp) (rep_newL hU (r1.rep _) hp)⟩
        rw [r1.length, sizeLine_eq]
        have a1 : a.length * k.toNat ≤ 1000 * 1000 := Nat.mul_le_mul hz.2.2 (by omega)
        omega
      · cases e
    · cases e
  · cases e
def dMod (_ : Sto) : D → D → Option D
  | .int i, .int j => if 0 < j then some (.int (i % j)) else none
  | _, _ => none
theorem od_mod {G : Gd} : OpD G (rI (fun _ j => 0 < j) fun i j => .int (i % j)) dMod := by
  intro φ U H S v1 v2 d1 d2 d Q hc hU h1 h2 e q
  unfold dMod at e
  split at e
  · split at e
    · rename_i hz
      cases e
      exact ⟨_, _, h1.int, h2.int, hz, q _ _ (Same.refl _) (.int _)⟩
    · cases e
  · cases e
def dDiv (_ : Sto) : D → D → Option D
  | .int i, .int j => if 0 < j ∧ j < 1073741824 then some (.int (i / j)) else none
  | _, _ => none
theorem od_div {G : Gd} : OpD G (rI CDiv fun i j => .int (i / j)) dDiv := by
  intro φ U H S v1 v2 d1 d2 d Q hc hU h1 h2 e q
  unfold dDiv at e
  split at e
  · split at e
    · rename_i hz
      cases e
      exact ⟨_, _, h1.int, h2.int, hz, q _ _ (Same.refl _) (.int _)⟩
    · cases e
  · cases e
def dPow (_ : Sto) : D → D → Option D
  | .int i, .int j => if 0 ≤ j ∧ j ≤ 1000 ∧ i.natAbs < 2 ^ 64 then some (.int (i ^ j.toNat)) else none
  | _, _ => none
theorem od_pow {G : Gd} : OpD G (rI CPow fun i j => .int (i ^ j.toNat)) dPow := by
  intro φ U H S v1 v2 d1 d2 d Q hc hU h1 h2 e q
  unfold dPow at e
  split at e
  · split at e
    · rename_i hz
      cases e
      exact ⟨_, _, h1.int, h2.int, ⟨hz.1, by omega, hz.2.2⟩, q _ _ (Same.refl _) (.int _)⟩
    · cases e
  · cases e
def dNeg (_ : Sto) : D → Option D
  | .int i => some (.int (-i))
  | _ => none
theorem ud_neg {G : Gd} : UnD G (rU fun i => .int (-i)) dNeg := by
  intro φ U H S v1 d1 d Q hc hU h1 e q
  unfold dNeg at e
  split at e
  · cases e
    exact ⟨_, h1.int, q _ _ (Same.refl _) (.int _)⟩
  · cases e

/-! ### comparisons -/
def dCmp (f : Int → Int → Bool) (_ : Sto) : D → D → Option D
  | .int i, .int j => some (.bl (f i j))
  | _, _ => none
theorem od_cmp {G : Gd} {f : Int → Int → Bool} : OpD G (rI0 fun i j => .bl (f i j)) (dCmp f) := by
  intro φ U H S v1 v2 d1 d2 d Q hc hU h1 h2 e q
  unfold dCmp at e
  split at e
  · cases e
    exact ⟨_, _, h1.int, h2.int, q _ _ (Same.refl _) (.bl _)⟩
  · cases e
mutual
def toPy : D → Option PyData
  | .non => some .none
  | .bl b => some (.bool b)
  | .int i => some (.int i)
  | .str x => some (.str x)
  | .tup ds => (toPys ds).map .tuple
  | .lst ds => (toPys ds).map .list
  | .ref _ => none
  | .glo _ => none
  | .scr _ => none
  | .emp => none
  | .adr _ => none
  | .xo1 _ _ _ _ => none
  | .obj _ _ _ => none
def toPys : List D → Option (List PyData)
  | [] => some []
  | d :: ds => match toPy d, toPys ds with
    | some p, some ps => some (p :: ps)
    | _, _ => none
end
section
variable {G : Gd} {φ : List Addr} {U : Addr → Prop} {H : Hp}
mutual
theorem toPy_dp : ∀ (d : D) (v : V) (p : PyData), Rep G φ U H v d → toPy d = some p → Dp G.K H v p
  | .non, _, _, h, e => by cases h; cases e; exact .non
  | .bl _, _, _, h, e => by cases h; cases e; exact .bl _
  | .int _, _, _, h, e => by cases h; cases e; exact .int _
  | .str _, _, _, h, e => by cases h; cases e; exact .str _
  | .tup ds, _, p, h, e => by
    unfold toPy at e
    cases q : toPys ds with
    | none => rw [q] at e; cases e
    | some ps =>
      rw [q] at e
      cases e
      obtain ⟨a, vs, rfl, k, r⟩ := h.ofTup
      exact .tup k (toPys_dp ds vs ps r q)
  | .lst ds, _, p, h, e => by
    unfold toPy at e
    cases q : toPys ds with
    | none => rw [q] at e; cases e
    | some ps =>
      rw [q] at e
      cases e
      obtain ⟨a, vs, rfl, k, _, r⟩ := h.ofLst
      exact .lst (.inl (.inl k)) (toPys_dp ds vs ps r q)
  | .ref _, _, _, _, e => by cases e
  | .glo _, _, _, _, e => by cases e
  | .scr _, _, _, _, e => by cases e
  | .emp, _, _, _, e => by cases e
  | .adr _, _, _, _, e => by cases e
  | .xo1 _ _ _ _, _, _, _, e => by cases e
  | .obj _ _ _, _, _, _, e => by cases e
theorem toPys_dp : ∀ (ds : List D) (vs : List V) (ps : List PyData), RepL G φ U H vs ds → toPys ds = some ps → DpAll G.K H vs ps
  | [], _, _, h, e => by cases h; cases e; exact .nil
  | d :: ds, _, ps, h, e => by
    cases h with
    | cons h1 h2 =>
      unfold toPys at e
      split at e
      · rename_i p qs e1 e2
        cases e
        exact .cons (toPy_dp d _ p h1 e1) (toPys_dp ds _ qs h2 e2)
      · cases e
end
theorem toPy_h {d : D} {v : V} {p : PyData} (h : RepH G φ U H v d) (e : toPy d = some p) : Dp G.K H v p := by
  rcases h with h | ⟨es, a, vs, rfl, rfl, h1, h2⟩
  · exact toPy_dp d v p h e
  · unfold toPy at e
    cases q : toPys es with
    | none => rw [q] at e; cases e
    | some ps =>
      rw [q] at e
      cases e
      exact .lst (.inl (.inl h1)) (toPys_dp es vs ps h2 q)
end
def dEqB (d e : D) : Option Bool := match toPy d, toPy e with
  | some p, some q => if SeqAt.shaped p = true ∧ SeqAt.shaped q = true then some (PyData.eqv p q) else none
  | _, _ => none
def dEq (_ : Sto) : D → D → Option D
  | .emp, .emp => some (.bl true)
  | d, e => (dEqB d e).map .bl
def dNe (_ : Sto) (d e : D) : Option D := (dEqB d e).map fun b => .bl (!b)
def rEqA (K : PySem.W.Frag) : R2 := fun x y H Q => rEqD K x y H Q ∨ rEqV K x y H Q
theorem op_eqA {X : Cx} (hu : X.A.units + 64 < cLine) : OpR X (compareOp .Eq) (rEqA X.K) := (op_eqD hu).or (op_eqV hu)
theorem dEqB_some {d e : D} {b : Bool} (h : dEqB d e = some b) : ∃ p q, toPy d = some p ∧ toPy e = some q ∧ SeqAt.shaped p = true ∧ SeqAt.shaped q = true ∧ b = PyData.eqv p q := by
  unfold dEqB at h
  split at h
  · rename_i p q e1 e2
    split at h
    · rename_i hz
      cases h
      exact ⟨p, q, e1, e2, hz.1, hz.2, rfl⟩
    · cases h
  · cases h
theorem od_eq {G : Gd} : OpD G (rEqA G.K) dEq := by
  intro φ U H S v1 v2 d1 d2 d Q hc hU h1 h2 e q
  unfold dEq at e
  split at e
  · cases e
    have g1 := h1.rep (fun _ z => by cases z)
    have g2 := h2.rep (fun _ z => by cases z)
    cases g1 with
    | emp a1 _ =>
      cases g2 with
      | emp a2 _ => exact .inr ⟨0, by decide, .inr ⟨_, _, [], [], rfl, rfl, a1, a2, rfl, fun p hp => by cases hp⟩, q _ _ (Same.refl _) (.bl _)⟩
  · cases eb : dEqB d1 d2 with
    | none => rw [eb] at e; cases e
    | some b =>
      rw [eb] at e
      cases e
      obtain ⟨p, r, e1, e2, s1, s2, rfl⟩ := dEqB_some eb
      exact .inl ⟨p, r, toPy_h h1 e1, toPy_h h2 e2, s1, s2, q _ _ (Same.refl _) (.bl _)⟩
theorem od_ne {G : Gd} : OpD G (rNeD G.K) dNe := by
  intro φ U H S v1 v2 d1 d2 d Q hc hU h1 h2 e q
  unfold dNe at e
  cases eb : dEqB d1 d2 with
  | none => rw [eb] at e; cases e
  | some b =>
    rw [eb] at e
    cases e
    obtain ⟨p, r, e1, e2, s1, s2, rfl⟩ := dEqB_some eb
    exact ⟨p, r, toPy_h h1 e1, toPy_h h2 e2, s1, s2, q _ _ (Same.refl _) (.bl _)⟩
def isNon : D → Option Bool
  | .non => some true
  | .glo _ => none
  | _ => some false
theorem isNon_of {G : Gd} {φ : List Addr} {U : Addr → Prop} {H : Hp} {v : V} {d : D} {b : Bool} (h : RepH G φ U H v d) (e : isNon d = some b) : decide (v = V.non) = b := by
  rcases h with h | ⟨es, a, vs, rfl, rfl, _⟩
  · cases h <;> cases e <;> simp
  · cases e; simp
/-- is None; is True (of bools) -/
def dIs (_ : Sto) : D → D → Option D
  | d, .non => (isNon d).map .bl
  | .bl a, .bl b => some (.bl (decide (a = b)))
  | _, _ => none
def rIsA : R2 := fun x y H Q => (y = .non ∧ Q (.bl (decide (x = .non))) H) ∨ rIsB x y H Q
theorem op_isA {X : Cx} : OpR X (compareOp .Is) rIsA := op_isN.or op_isBl
theorem od_is {G : Gd} : OpD G rIsA dIs := by
  intro φ U H S v1 v2 d1 d2 d Q hc hU h1 h2 e q
  unfold dIs at e
  split at e
  · cases eb : isNon d1 with
    | none => rw [eb] at e; cases e
    | some b =>
      rw [eb] at e
      cases e
      exact .inl ⟨h2.non, by rw [isNon_of h1 eb]; exact q _ _ (Same.refl _) (.bl _)⟩
  · cases e
    exact .inr ⟨_, _, h1.bl, h2.bl, q _ _ (Same.refl _) (.bl _)⟩
  · cases e
def dIsNot (_ : Sto) : D → D → Option D
  | d, .non => (isNon d).map fun b => .bl (!b)
  | .bl a, .bl b => some (.bl (!decide (a = b)))
  | _, _ => none
def rIsNotA : R2 := fun x y H Q => (y = .non ∧ Q (.bl (!decide (x = .non))) H) ∨ rNotB x y H Q
theorem op_isNotA {X : Cx} : OpR X (compareOp .IsNot) rIsNotA := op_notN.or op_notBl
theorem od_isNot {G : Gd} : OpD G rIsNotA dIsNot := by
  intro φ U H S v1 v2 d1 d2 d Q hc hU h1 h2 e q
  unfold dIsNot at e
  split at e
  · cases eb : isNon d1 with
    | none => rw [eb] at e; cases e
    | some b =>
      rw [eb] at e
      cases e
      exact .inl ⟨h2.non, by rw [isNon_of h1 eb]; exact q _ _ (Same.refl _) (.bl _)⟩
  · cases e
    exact .inr ⟨_, _, h1.bl, h2.bl, q _ _ (Same.refl _) (.bl _)⟩
  · cases e

/-! ### in, not in: flat things -/
def toFlat : D → Option V
  | .non => some .non
  | .bl b => some (.bl b)
  | .int i => some (.int i)
  | .str x => some (.str x)
  | _ => none
def toFlats : List D → Option (List V)
  | [] => some []
  | d :: ds => match toFlat d, toFlats ds with
    | some p, some ps => some (p :: ps)
    | _, _ => none
def itemsOf (S : Sto) : D → Option (List D)
  | .tup ds => some ds
  | d => lsOf S d
section
variable {G : Gd} {φ : List Addr} {U : Addr → Prop} {H : Hp}
theorem toFlat_ok {d : D} {v w : V} (h : Rep G φ U H v d) (e : toFlat d = some w) : v = w ∧ flatV v = true := by
  cases h <;> cases e <;> exact ⟨rfl, rfl⟩
theorem toFlats_ok : ∀ {ds : List D} {vs ws : List V}, RepL G φ U H vs ds → toFlats ds = some ws → vs = ws ∧ vs.all flatV = true
  | [], _, _, h, e => by cases h; cases e; exact ⟨rfl, rfl⟩
  | d :: ds, _, _, h, e => by
    cases h with
    | cons h1 h2 =>
      unfold toFlats at e
      split at e
      · rename_i p ps e1 e2
        cases e
        obtain ⟨a1, a2⟩ := toFlat_ok h1 e1
        obtain ⟨b1, b2⟩ := toFlats_ok h2 e2
        exact ⟨by rw [a1, b1], by rw [List.all_cons, a2, b2]; rfl⟩
      · cases e
end
def dInB (S : Sto) (d e : D) : Option Bool := match toFlat d, (itemsOf S e).bind toFlats with
  | some x, some xs => some (inV x xs)
  | _, _ => none
def dIn (neg : Bool) (S : Sto) (d e : D) : Option D := (dInB S d e).map fun b => .bl (if neg then !b else b)
theorem RepH.items {G : Gd} {φ : List Addr} {U : Addr → Prop} {H : Hp} {S : Sto} {v : V} {d : D} {ds : List D} (h : RepH G φ U H v d) (hc : CellsOk G φ U H S) (e : itemsOf S d = some ds) :
    ∃ a vs, v = .ref a ∧ (SqL G.K H a vs ∨ SqT G.K H a vs) ∧ RepL G φ U H vs ds := by
  unfold itemsOf at e
  split at e
  · cases e
    obtain ⟨a, vs, h1, h2, h3⟩ := h.tup
    exact ⟨a, vs, h1, .inr h2, h3⟩
  · obtain ⟨a, vs, h1, h2, h3⟩ := h.ls hc e
    exact ⟨a, vs, h1, .inl (.inl (.inl h2)), h3⟩
theorem od_in {G : Gd} {neg : Bool} : OpD G (rIn G.K neg) (dIn neg) := by
  intro φ U H S v1 v2 d1 d2 d Q hc hU h1 h2 e q
  unfold dIn at e
  cases eb : dInB S d1 d2 with
  | none => rw [eb] at e; cases e
  | some b =>
    rw [eb] at e
    cases e
    unfold dInB at eb
    split at eb
    · rename_i x xs e1 e2
      cases eb
      cases ei : itemsOf S d2 with
      | none => rw [ei] at e2; cases e2
      | some ds =>
        rw [ei] at e2
        obtain ⟨a, vs, rfl, k, r⟩ := h2.items hc ei
        have g1 := h1.rep (fun _ z => by rw [z] at e1; cases e1)
        obtain ⟨rfl, f1⟩ := toFlat_ok g1 e1
        obtain ⟨rfl, f2⟩ := toFlats_ok r e2
        exact ⟨a, vs, rfl, k, f1, f2, q _ _ (Same.refl _) (.bl _)⟩
    · cases eb

/-! ### a[i], a[i:j] -/
def dIx (S : Sto) : D → D → Option D
  | .tup ds, .int i => atI ds i
  | .scr ns, .int i => (atI ns i).map .int
  | .str z, .int i => if z.length ≤ 100000 then (atI z.cps.toList i).map fun c => .str ⟨#[c]⟩ else none
  | d, .int i => (lsOf S d).bind fun ds => atI ds i
  | _, _ => none
def rIxA (K : PySem.W.Frag) : R2 := fun x y H Q => (rIxL K x y H Q ∨ rIxT K x y H Q) ∨ rIxS x y H Q
theorem ix_any {X : Cx} : IxR X (rIxA X.K) := (ix_list.or ix_tup).or ix_str
theorem atI_map {α β : Type} (f : α → β) (xs : List α) (i : Int) : atI (xs.map f) i = (atI xs i).map f := by
  unfold atI
  rw [List.length_map]
  cases ixN xs.length i with
  | none => rfl
  | some j => simp
theorem od_ix {G : Gd} : OpD G (rIxA G.K) dIx := by
  intro φ U H S v1 v2 d1 d2 d Q hc hU h1 h2 e q
  unfold dIx at e
  split at e
  · obtain ⟨p1, vs, rfl, k1, r1⟩ := h1.tup
    obtain ⟨v, e1, r⟩ := r1.at e
    exact .inl (.inr ⟨p1, vs, _, v, rfl, h2.int, k1, e1, q _ _ (Same.refl _) r⟩)
  · rename_i ns i
    obtain ⟨p1, rfl, k1⟩ := h1.scr
    cases ea : atI ns i with
    | none => rw [ea] at e; cases e
    | some z =>
      rw [ea] at e
      cases e
      exact .inl (.inl ⟨p1, _, _, _, rfl, h2.int, k1, by rw [atI_map, ea]; rfl, q _ _ (Same.refl _) (.int _)⟩)
  · rename_i z i
    split at e
    · rename_i hz
      cases ea : atI z.cps.toList i with
      | none => rw [ea] at e; cases e
      | some c =>
        rw [ea] at e
        cases e
        exact .inr ⟨z, i, c, h1.str, h2.int, sz5 hz, ea, q _ _ (Same.refl _) (.str _)⟩
    · cases e
  · rename_i i _ _ _
    cases el : lsOf S d1 with
    | none => rw [el] at e; cases e
    | some ds =>
      rw [el] at e
      obtain ⟨p1, vs, rfl, k1, r1⟩ := h1.ls hc el
      obtain ⟨v, e1, r⟩ := r1.at (show atI ds i = some d from e)
      exact .inl (.inl ⟨p1, vs, _, v, rfl, h2.int, .inl (.inl k1), e1, q _ _ (Same.refl _) r⟩)
  · cases e
end DL
set_option Elab.async false
set_option linter.all false
set_option maxRecDepth 100000
/-! DL4: built-in calls by data, slices, new lists -/
namespace DL
open PySem PySem.Spec PyProof.Rows L2

/-! ### arguments that are read at once -/
def rpBL (G : Gd) : RP (List D) (List V) := fun env ow φ U H vs ds => Paired (fun v d => rpB G env ow φ U H v d) vs ds
def SAB (X : Cx) (T : List (Addr × Str)) (F : Fr) (W : WX) (m : M (List D)) (es : List Expr) : Prop := PA X es (LiftR (gX X T) F W (rpBL (gX X T)) m)
def mCB (g : Sto → List D → Option D) (ml : M (List D)) : M D := fun env S => (ml env S).bnd fun ds S1 => oR (g S1 ds) S1
def CallD (G : Gd) (r : List V → Hp → VK → Prop) (g : Sto → List D → Option D) : Prop := ∀ (φ : List Addr) (U : Addr → Prop) (H : Hp) (S : Sto) (vs : List V) (ds : List D) (d : D) (Q : VK), CellsOk G φ U H S →
  (∀ a, U a → H a ≠ none) → Paired (fun v d => RepH G φ U H v d) vs ds → g S ds = some d → (∀ v H', Same H H' → Rep G φ U H' v d → Q v H') → r vs H Q
section
variable {X : Cx} {T : List (Addr × Str)} {F : Fr} {W : WX} {e a b : Expr} {es : List Expr} {pos : Pos} {ma mb : M D} {ml : M (List D)}
theorem sab_nil : SAB X T F W mNil [] := PA.imp pa_nil fun σ H Q ⟨φ, ow, S, env, R, q⟩ => PostR.here (a := ([] : List D)) q R .nil
theorem sab_cons (ha : SB X T F W ma a) (hr : SAB X T F W ml es) (hs : starEach (a :: es) X.env = (false, eval a X.env) :: starEach es X.env := by rfl) : SAB X T F W (mCons ma ml) (a :: es) :=
  PA.imp (pa_cons ha hr hs) fun σ H Q ⟨φ, ow, S, env, R, q⟩ => lift_bnd R q fun d S1 φ1 H1 v R1 s1 p1 r1 q1 => lift_bnd R1 q1 fun ds S2 φ2 H2 vs R2 s2 p2 r2 q2 => PostR.here (a := d :: ds) q2 R2 (.cons (r1.st s2 p2) r2)
theorem rpBL.h {G : Gd} {φ : List Addr} {ow : OW} {S : Sto} {env : En} {σ : L2.St} {H : Hp} {vs : List V} {ds : List D} (R : Rel G F φ ow S env σ H) (h : rpBL G env ow φ (mutA F φ ow) H vs ds) : Paired (fun v d => RepH G φ (mutA F φ ow) H v d) vs ds :=
  Paired.mapP h fun v d r => rpB.h R r
theorem lift_cb {r : List V → Hp → VK → Prop} {g : Sto → List D → Option D} {G : Gd} (hd : CallD G r g) (σ : L2.St) (H : Hp) (Q : VK) (h : LiftR G F W (rpD G) (mCB g ml) σ H Q) : tCB r (LiftR G F W (rpBL G) ml) σ H Q := by
  obtain ⟨φ, ow, S, env, R, q⟩ := h
  refine lift_bnd R q fun ds S1 φ1 H1 vs R1 s1 p1 r1 q1 => ?_
  cases hg : g S1 ds with
  | none => rw [hg] at q1; exact q1.elim
  | some d =>
    rw [hg] at q1
    exact hd φ1 _ H1 S1 vs ds d Q R1.cells (fun a => R1.mutT) (rpBL.h R1 r1) hg fun v H' sm rp => PostR.grown q1 R1 sm rp
theorem se_callB {x : Str} {p : Pos} {id : String} {r : List V → Hp → VK → Prop} {g : Sto → List D → Option D} (hc : CallR X (.builtin id) r) (hd : CallD (gX X T) r g) (hg : Gl X x) (hm : X.mg x = none) (hv : bootBuiltins x = some (.builtin id)) (ha : SAB X T F W ml (e :: es))
    (hn : x ≠ "__name__" := by decide) (hdb : (x == ("__debug__" : Str)) = false := by decide)
    (he : starEach (e :: es) X.env = (false, eval e X.env) :: starEach es X.env := by rfl) (hpl : (backTo pos (starEach es X.env)).any (·.1) = false := by rfl) : SE X T F W (mCB g ml) (.Call (.Name x p) (e :: es) [] pos) :=
  PE.imp (pe_callB hc hg hm hv ha hn hdb he hpl) (lift_cb hd)
theorem se_callTy {x : Str} {p : Pos} {id : String} {r : List V → Hp → VK → Prop} {g : Sto → List D → Option D} (hc : CallR X (.type id) r) (hd : CallD (gX X T) r g) (hg : Gl X x) (hm : X.mg x = none) (hv : bootBuiltins x = some (.type id)) (ha : SAB X T F W ml (e :: es))
    (hn : x ≠ "__name__" := by decide) (hdb : (x == ("__debug__" : Str)) = false := by decide)
    (he : starEach (e :: es) X.env = (false, eval e X.env) :: starEach es X.env := by rfl) (hpl : (backTo pos (starEach es X.env)).any (·.1) = false := by rfl) : SE X T F W (mCB g ml) (.Call (.Name x p) (e :: es) [] pos) :=
  PE.imp (pe_callTy hc hg hm hv ha hn hdb he hpl) (lift_cb hd)
end

/-! ### len, abs, int, min, max, sum, all, any, tuple, list, divmod -/
def lenOf (S : Sto) : D → Option Nat
  | .tup ds => some ds.length
  | .scr ns => some ns.length
  | .str z => if z.length ≤ 100000 then some z.length else none
  | d => (lsOf S d).map List.length
def dLen (S : Sto) : List D → Option D
  | [d] => (lenOf S d).map fun n => .int (n : Int)
  | _ => none
abbrev rLenA (K : PySem.W.Frag) : List V → Hp → VK → Prop := fun xs H Q => ∃ x n, xs = [x] ∧ LenV K x H n ∧ Q (.int n) H
theorem paired1 {R : V → D → Prop} {vs : List V} {d : D} (h : Paired R vs [d]) : ∃ v, vs = [v] ∧ R v d := by
  cases h with
  | cons a b => cases b; exact ⟨_, rfl, a⟩
theorem paired2 {R : V → D → Prop} {vs : List V} {d e : D} (h : Paired R vs [d, e]) : ∃ v w, vs = [v, w] ∧ R v d ∧ R w e := by
  cases h with
  | cons a b =>
    obtain ⟨w, rfl, c⟩ := paired1 b
    exact ⟨_, _, rfl, a, c⟩
theorem RepH.len {G : Gd} {φ : List Addr} {U : Addr → Prop} {H : Hp} {S : Sto} {v : V} {d : D} {n : Nat} (h : RepH G φ U H v d) (hc : CellsOk G φ U H S) (e : lenOf S d = some n) : LenV G.K v H n := by
  unfold lenOf at e
  split at e
  · cases e
    obtain ⟨a, vs, rfl, h2, h3⟩ := h.tup
    exact .inr ⟨vs, h2, h3.length.symm⟩
  · cases e
    obtain ⟨a, rfl, h2⟩ := h.scr
    exact .inl ⟨_, h2, by simp⟩
  · split at e
    · rename_i hz
      cases e
      rw [h.str]
      exact ⟨sz5 hz, rfl⟩
    · cases e
  · cases el : lsOf S d with
    | none => rw [el] at e; cases e
    | some ds =>
      rw [el] at e
      cases e
      obtain ⟨a, vs, rfl, h2, h3⟩ := h.ls hc el
      exact .inl ⟨vs, .inl (.inl h2), h3.length.symm⟩
theorem cd_len {G : Gd} : CallD G (rLenA G.K) dLen := by
  intro φ U H S vs ds d Q hc hU hp e q
  unfold dLen at e
  split at e
  · rename_i d1
    obtain ⟨v, rfl, r⟩ := paired1 hp
    cases el : lenOf S d1 with
    | none => rw [el] at e; cases e
    | some n =>
      rw [el] at e
      cases e
      exact ⟨v, n, rfl, r.len hc el, q _ _ (Same.refl _) (.int _)⟩
  · cases e
def dAbs (_ : Sto) : List D → Option D
  | [.int i] => some (.int (if i < 0 then -i else i))
  | _ => none
theorem cd_abs {G : Gd} : CallD G (fun xs H Q => ∃ i, xs = [.int i] ∧ Q (.int (if i < 0 then -i else i)) H) dAbs := by
  intro φ U H S vs ds d Q hc hU hp e q
  unfold dAbs at e
  split at e
  · obtain ⟨v, rfl, r⟩ := paired1 hp
    cases e
    exact ⟨_, by rw [r.int], q _ _ (Same.refl _) (.int _)⟩
  · cases e
def dInt (_ : Sto) : List D → Option D
  | [.int i] => some (.int i)
  | [.bl k] => some (.int (if k then 1 else 0))
  | _ => none
theorem cd_int {G : Gd} : CallD G (fun xs H Q => (∃ i, xs = [.int i] ∧ Q (.int i) H) ∨ ∃ k, xs = [.bl k] ∧ Q (.int (if k then 1 else 0)) H) dInt := by
  intro φ U H S vs ds d Q hc hU hp e q
  unfold dInt at e
  split at e
  · obtain ⟨v, rfl, r⟩ := paired1 hp
    cases e
    exact .inl ⟨_, by rw [r.int], q _ _ (Same.refl _) (.int _)⟩
  · obtain ⟨v, rfl, r⟩ := paired1 hp
    cases e
    exact .inr ⟨_, by rw [r.bl], q _ _ (Same.refl _) (.int _)⟩
  · cases e
def d2I (f : Int → Int → Int) (_ : Sto) : List D → Option D
  | [.int i, .int j] => some (.int (f i j))
  | _ => none
theorem cd_2i {G : Gd} {f : Int → Int → Int} : CallD G (fun xs H Q => ∃ i j, xs = [.int i, .int j] ∧ Q (.int (f i j)) H) (d2I f) := by
  intro φ U H S vs ds d Q hc hU hp e q
  unfold d2I at e
  split at e
  · obtain ⟨v, w, rfl, r1, r2⟩ := paired2 hp
    cases e
    exact ⟨_, _, by rw [r1.int, r2.int], q _ _ (Same.refl _) (.int _)⟩
  · cases e
def toInts : List D → Option (List Int)
  | [] => some []
  | .int i :: ds => (toInts ds).map (i :: ·)
  | _ => none
def toBls : List D → Option (List Bool)
  | [] => some []
  | .bl i :: ds => (toBls ds).map (i :: ·)
  | _ => none
theorem toInts_ok {G : Gd} {φ : List Addr} {U : Addr → Prop} {H : Hp} : ∀ {ds : List D} {vs : List V} {ns : List Int}, RepL G φ U H vs ds → toInts ds = some ns → vs = ns.map V.int
  | [], _, _, h, e => by cases h; cases e; rfl
  | d :: ds, _, ns, h, e => by
    cases h with
    | cons h1 h2 =>
      cases d with
      | int i =>
        unfold toInts at e
        cases q : toInts ds with
        | none => rw [q] at e; cases e
        | some ms =>
          rw [q] at e
          cases e
          rw [h1.ofInt, toInts_ok h2 q]
          rfl
      | _ => cases e
theorem toBls_ok {G : Gd} {φ : List Addr} {U : Addr → Prop} {H : Hp} : ∀ {ds : List D} {vs : List V} {ns : List Bool}, RepL G φ U H vs ds → toBls ds = some ns → vs = ns.map V.bl
  | [], _, _, h, e => by cases h; cases e; rfl
  | d :: ds, _, ns, h, e => by
    cases h with
    | cons h1 h2 =>
      cases d with
      | bl i =>
        unfold toBls at e
        cases q : toBls ds with
        | none => rw [q] at e; cases e
        | some ms =>
          rw [q] at e
          cases e
          rw [h1.ofBl, toBls_ok h2 q]
          rfl
      | _ => cases e
def dSum (S : Sto) : List D → Option D
  | [d] => ((lsOf S d).bind toInts).map fun ns => .int ns.sum
  | _ => none
theorem cd_sum {G : Gd} : CallD G (rSum G.K) dSum := by
  intro φ U H S vs ds d Q hc hU hp e q
  unfold dSum at e
  split at e
  · rename_i d1
    obtain ⟨v, rfl, r⟩ := paired1 hp
    cases el : lsOf S d1 with
    | none => rw [el] at e; cases e
    | some es =>
      rw [el] at e
      cases en : toInts es with
      | none => rw [Option.bind_some, en] at e; cases e
      | some ns =>
        rw [Option.bind_some, en] at e
        cases e
        obtain ⟨a, ws, rfl, k, rl⟩ := r.ls hc el
        exact ⟨a, ns, rfl, by rw [← toInts_ok rl en]; exact .inl (.inl k), q _ _ (Same.refl _) (.int _)⟩
  · cases e
def dAllAny (f : List Bool → Bool) (S : Sto) : List D → Option D
  | [d] => ((lsOf S d).bind toBls).map fun ns => .bl (f ns)
  | _ => none
theorem cd_allany {G : Gd} {f : List Bool → Bool} : CallD G (fun vs H Q => ∃ (a : Addr) (bs : List Bool), vs = [V.ref a] ∧ SqL G.K H a (bs.map V.bl) ∧ Q (.bl (f bs)) H) (dAllAny f) := by
  intro φ U H S vs ds d Q hc hU hp e q
  unfold dAllAny at e
  split at e
  · rename_i d1
    obtain ⟨v, rfl, r⟩ := paired1 hp
    cases el : lsOf S d1 with
    | none => rw [el] at e; cases e
    | some es =>
      rw [el] at e
      cases en : toBls es with
      | none => rw [Option.bind_some, en] at e; cases e
      | some ns =>
        rw [Option.bind_some, en] at e
        cases e
        obtain ⟨a, ws, rfl, k, rl⟩ := r.ls hc el
        exact ⟨a, ns, rfl, by rw [← toBls_ok rl en]; exact .inl (.inl k), q _ _ (Same.refl _) (.bl _)⟩
  · cases e
def dTuple (S : Sto) : List D → Option D
  | [.tup ds] => some (.tup ds)
  | [d] => (lsOf S d).map .tup
  | _ => none
theorem cd_tuple {G : Gd} : CallD G (fun xs H Q => ∃ p ys, xs = [.ref p] ∧ ((SqL G.K H p ys ∧ ∀ l, H l = none → Q (.ref l) (upd H l (.tup ys))) ∨ (SqT G.K H p ys ∧ Q (.ref p) H))) dTuple := by
  intro φ U H S vs ds d Q hc hU hp e q
  unfold dTuple at e
  split at e
  · obtain ⟨v, rfl, r⟩ := paired1 hp
    cases e
    obtain ⟨a, vs, rfl, k, rl⟩ := r.tup
    exact ⟨a, vs, rfl, .inr ⟨k, q _ _ (Same.refl _) (r.rep (fun _ z => by cases z))⟩⟩
  · rename_i d1 _
    obtain ⟨v, rfl, r⟩ := paired1 hp
    cases el : lsOf S d1 with
    | none => rw [el] at e; cases e
    | some es =>
      rw [el] at e
      cases e
      obtain ⟨a, ws, rfl, k, rl⟩ := r.ls hc el
      exact ⟨a, ws, rfl, .inl ⟨.inl (.inl k), fun l hl => q _ _ (same_upd hl) (rep_newT hU rl hl)⟩⟩
  · cases e
def dDivmod (_ : Sto) : List D → Option D
  | [.int i, .int j] => if 0 < j ∧ j < 1073741824 then some (.tup [.int (i / j), .int (i % j)]) else none
  | _ => none
theorem cd_divmod {G : Gd} : CallD G (fun xs H Q => ∃ i j, xs = [.int i, .int j] ∧ CDiv i j ∧ ∀ p, H p = none → Q (.ref p) (upd H p (.tup [.int (i / j), .int (i % j)]))) dDivmod := by
  intro φ U H S vs ds d Q hc hU hp e q
  unfold dDivmod at e
  split at e
  · split at e
    · rename_i hz
      obtain ⟨v, w, rfl, r1, r2⟩ := paired2 hp
      cases e
      exact ⟨_, _, by rw [r1.int, r2.int], hz, fun p hp => q _ _ (same_upd hp) (rep_newT hU (.cons (.int _) (.cons (.int _) .nil)) hp)⟩
    · cases e
  · cases e

/-! ### isinstance(e, T), T a built-in type -/
def tyName : D → Option String
  | .non => some "NoneType"
  | .bl _ => some "bool"
  | .int _ => some "int"
  | .str _ => some "str"
  | .tup _ => some "tuple"
  | .lst _ => some "list"
  | .scr _ => some "list"
  | .emp => some "dict"
  | _ => none
/-- is a type below another one -/
def subTy (a b : String) : Option Bool :=
  if b = "int" then some (a == "int" || a == "bool") else if b = "bool" ∨ b = "str" ∨ b = "tuple" ∨ b = "list" ∨ b = "dict" then some (a == b) else none
theorem sub_kit {d : D} {a b : String} {k : Bool} (ha : tyName d = some a) (h : subTy a b = some k) : kitB a b = some k := by
  have hb : b = "int" ∨ b = "bool" ∨ b = "str" ∨ b = "tuple" ∨ b = "list" ∨ b = "dict" := by
    unfold subTy at h
    split at h
    · rename_i e; exact .inl e
    · split at h
      · rename_i e; exact .inr e
      · cases h
  have hh : a = "NoneType" ∨ a = "bool" ∨ a = "int" ∨ a = "str" ∨ a = "tuple" ∨ a = "list" ∨ a = "dict" := by
    cases d <;> cases ha <;> simp
  rcases hb with rfl | rfl | rfl | rfl | rfl | rfl <;> rcases hh with rfl | rfl | rfl | rfl | rfl | rfl | rfl <;> (cases h; decide +kernel)
def dIsi (t : String) (_ : Sto) (d : D) : Option D := ((tyName d).bind fun a => subTy a t).map .bl
theorem RepH.ty {G : Gd} {φ : List Addr} {U : Addr → Prop} {H : Hp} {v : V} {d : D} {a : String} (h : RepH G φ U H v d) (e : tyName d = some a) : TyX G.K H v (.type a) := by
  rcases h with h | ⟨es, a, vs, rfl, rfl, h1, _⟩
  · cases h with
    | non => cases e; exact .base .non
    | bl => cases e; exact .base (.bl _)
    | int => cases e; exact .base (.int _)
    | str => cases e; exact .base (.str _)
    | tup h1 => cases e; exact .base (.tup h1)
    | tupK h1 =>
      cases e
      obtain ⟨o, its, n, k1, k2, _⟩ := h1
      exact .kTuple k1 k2
    | lst h1 => cases e; exact .base (.lst h1)
    | ref => cases e
    | glo => cases e
    | scr h1 h2 =>
      cases e
      rcases h2 with rfl | ⟨ob, rfl⟩
      · exact .base (.lst h1)
      · exact .base (.frz h1)
    | scrK h1 =>
      cases e
      obtain ⟨o, its, n, k1, k2, _⟩ := h1
      exact .kList k1 k2
    | emp h1 => cases e; exact .base (.dK h1)
    | adr => cases e
    | obj => cases e
    | xo1 => cases e
  · cases e; exact .base (.lst h1)
section
variable {X : Cx} {T : List (Addr × Str)} {F : Fr} {W : WX} {e a b : Expr} {es : List Expr} {pos : Pos} {ma mb : M D} {ml : M (List D)}
theorem se_isi {y : Str} {t : String} {p p2 : Pos} (hg : Gl X "isinstance") (hm : X.mg "isinstance" = none) (hg2 : Gl X y) (hm2 : X.mg y = none) (hv2 : bootBuiltins y = some (.type t)) (ha : SB X T F W ma a) (hn2 : y ≠ "__name__" := by decide) (hd2 : (y == ("__debug__" : Str)) = false := by decide)
    (he : starEach [a, .Name y p2] X.env = (false, eval a X.env) :: starEach [.Name y p2] X.env := by rfl) :
    SE X T F W (mUn (dIsi t) ma) (.Call (.Name "isinstance" p) [a, .Name y p2] [] pos) := by
  refine PE.imp (pe_callB (t := tCons (LiftR (gX X T) F W (rpB (gX X T)) ma) (tCons (tC (.ty t)) tNil)) call_isi hg hm PyProof.Rows.boot_isinstance (pa_cons ha (pa_cons (pe_bltn hg2 hm2 hv2 rfl hn2 hd2) pa_nil) he) (he := he)) fun σ H Q ⟨φ, ow, S, env, R, q⟩ => ?_
  refine lift_bnd R q fun d S1 φ1 H1 v R1 s1 p1 r1 q1 => ?_
  cases ht : tyName d with
  | none =>
    have : dIsi t S1 d = none := by unfold dIsi; rw [ht]; rfl
    rw [this] at q1; exact q1.elim
  | some tn =>
    cases hk : subTy tn t with
    | none =>
      have : dIsi t S1 d = none := by unfold dIsi; rw [ht, Option.bind_some, hk]; rfl
      rw [this] at q1; exact q1.elim
    | some k =>
      have : dIsi t S1 d = some (.bl k) := by unfold dIsi; rw [ht, Option.bind_some, hk]; rfl
      rw [this] at q1
      exact ⟨v, .ty t, .type tn, .type t, k, rfl, .ty t, (r1.h R1).ty ht, kit_ty (sub_kit ht hk), PostR.here (a := D.bl k) q1 R1 (.bl _)⟩

/-! ### slices -/
def mPart (ma : M D) : M (Option Int) := fun env S => (ma env S).bnd fun d S1 => match d with
  | .int i => .ok (some i) S1
  | _ => .stuck
def mSl (g : Sto → D → Option Int → Option Int → Option D) (ma : M D) (ml mh : M (Option Int)) : M D := fun env S => (ma env S).bnd fun a S1 => (ml env S1).bnd fun l S2 => (mh env S2).bnd fun h S3 => oR (g S3 a l h) S3
theorem so_none : SO X T F W (mC none) none := PO.imp po_none fun σ H Q ⟨φ, ow, S, env, R, q⟩ => PostR.here (a := (none : Option Int)) q R rfl
theorem so_some (h : SB X T F W ma a) : SO X T F W (mPart ma) (some a) := PO.imp (po_some h) fun σ H Q ⟨φ, ow, S, env, R, q⟩ => lift_bnd R q fun d S1 φ1 H1 v R1 s1 p1 r1 q1 => by
  cases d with
  | int i => exact ⟨i, (r1.h R1).int, PostR.here (a := some i) q1 R1 rfl⟩
  | _ => exact q1.elim
def dSl (S : Sto) (d : D) (lo hi : Option Int) : Option D := match d with
  | .tup ds => some (.tup (cutL ds lo hi))
  | .scr ns => some (.lst (cutL (ns.map D.int) lo hi))
  | d => (lsOf S d).map fun ds => .lst (cutL ds lo hi)
def rSlAny (K : PySem.W.Frag) : V → Option Int → Option Int → Hp → VK → Prop := fun x lo hi H Q => rSlA K x lo hi H Q ∨ rSlL K x lo hi H Q
theorem sl_any : SlR X (rSlAny X.K) := sl_tupA.or sl_list
theorem cutL_map {α β : Type} (f : α → β) (xs : List α) (lo hi : Option Int) : cutL (xs.map f) lo hi = (cutL xs lo hi).map f := by
  unfold cutL
  rw [List.length_map, ← List.map_drop, ← List.map_take]
theorem cutL_whole {α : Type} {xs : List α} {lo hi : Option Int} (h : HT.sIx xs.length 0 lo = 0 ∧ HT.sIx xs.length xs.length hi = xs.length) : cutL xs lo hi = xs := by
  unfold cutL
  rw [h.1, h.2]
  simp
theorem sld_any {G : Gd} {φ : List Addr} {U : Addr → Prop} {H : Hp} {S : Sto} {v : V} {d d' : D} {lo hi : Option Int} {Q : VK} (hc : CellsOk G φ U H S) (hU : ∀ a, U a → H a ≠ none) (h : RepH G φ U H v d) (e : dSl S d lo hi = some d')
    (q : ∀ w H', Same H H' → Rep G φ U H' w d' → Q w H') : rSlAny G.K v lo hi H Q := by
  unfold dSl at e
  split at e
  · cases e
    obtain ⟨a, vs, rfl, k, rl⟩ := h.tup
    refine .inl ⟨a, vs, rfl, k, fun hw => ?_, fun hw p hp => q _ _ (same_upd hp) (rep_newT hU (rl.cut lo hi) hp)⟩
    rw [rl.length] at hw
    rw [cutL_whole hw] at q
    exact q _ _ (Same.refl _) (h.rep (fun _ z => by cases z))
  · rename_i ns
    cases e
    obtain ⟨a, rfl, k⟩ := h.scr
    refine .inr ⟨a, _, rfl, k, fun p hp => q _ _ (same_upd hp) (rep_newL hU ?_ hp)⟩
    rw [← cutL_V, cutL_map, cutL_map]
    exact RepL.ofInts
  · cases el : lsOf S d with
    | none => rw [el] at e; cases e
    | some ds =>
      rw [el] at e
      cases e
      obtain ⟨a, vs, rfl, k, rl⟩ := h.ls hc el
      exact .inr ⟨a, vs, rfl, .inl (.inl k), fun p hp => q _ _ (same_upd hp) (rep_newL hU (rl.cut lo hi) hp)⟩
theorem se_slice {lo hi : Option Expr} {p2 : Pos} {nl nh : M (Option Int)} (ha : SB X T F W ma a) (hl : SO X T F W nl lo) (hh : SO X T F W nh hi) : SE X T F W (mSl dSl ma nl nh) (.Subscript a (.Slice lo hi none p2) pos) :=
  PE.imp (pe_slice sl_any ha hl hh) fun σ H Q ⟨φ, ow, S, env, R, q⟩ => lift_bnd R q fun d S1 φ1 H1 v R1 s1 p1 r1 q1 => lift_bnd R1 q1 fun l S2 φ2 H2 l' R2 s2 p2 r2 q2 => lift_bnd R2 q2 fun h S3 φ3 H3 h' R3 s3 p3 r3 q3 => by
    subst r2 r3
    cases hg : dSl S3 d l' h' with
    | none => rw [hg] at q3; exact q3.elim
    | some d' =>
      rw [hg] at q3
      exact sld_any R3.cells (fun a => R3.mutT) (((r1.st s2 p2).st s3 p3).h R3) hg fun w H' sm rp => PostR.grown q3 R3 sm rp
end
end DL
set_option Elab.async false
set_option linter.all false
set_option maxRecDepth 100000
/-! DL5: how a frame's state turns -/
namespace DL
open PySem PySem.Spec PyProof.Rows L2

theorem set_cases {α : Type} {l : List α} {i j : Nat} {x y : α} (h : (l.set i x)[j]? = some y) : (j = i ∧ y = x ∧ i < l.length) ∨ (i ≠ j ∧ l[j]? = some y) := by
  rw [List.getElem?_set] at h
  split at h
  · rename_i e
    split at h
    · rename_i hl
      exact .inl ⟨e.symm, (Option.some.inj h).symm, hl⟩
    · cases h
  · rename_i ne
    exact .inr ⟨ne, h⟩
def Ow.push (ow : Ow) (a : Addr) (ds : List D) : Ow := ⟨ow.sl, (a, ds) :: ow.tm⟩
def Ow.off (ow : Ow) (i : Nat) : Ow := ⟨ow.sl.set i none, ow.tm⟩
def Ow.on (ow : Ow) (i : Nat) (a : Addr) : Ow := ⟨ow.sl.set i (some a), ow.tm⟩
theorem stp_less {U U' : Addr → Prop} {H : Hp} (h : ∀ a, U' a → U a) : Stp U H U' H := fun a o _ e n => ⟨e, fun z => n (h a z)⟩
theorem Ow.has_off {ow : Ow} {i : Nat} {a : Addr} (h : (ow.off i).has a) : ow.has a := by
  rcases h with h | h
  · refine .inl ?_
    obtain ⟨j, hj⟩ := List.mem_iff_getElem?.mp h
    have hj : (ow.sl.set i none)[j]? = some (some a) := hj
    rw [List.getElem?_set] at hj
    split at hj
    · split at hj <;> cases hj
    · exact List.mem_iff_getElem?.mpr ⟨j, hj⟩
  · exact .inr h
theorem Ow.has_on {ow : Ow} {i : Nat} {a b : Addr} (h : (ow.on i a).has b) : b = a ∨ ow.has b := by
  rcases h with h | h
  · obtain ⟨j, hj⟩ := List.mem_iff_getElem?.mp h
    have hj : (ow.sl.set i (some a))[j]? = some (some b) := hj
    rw [List.getElem?_set] at hj
    split at hj
    · split at hj
      · exact .inl (Option.some.inj (Option.some.inj hj)).symm
      · cases hj
    · exact .inr (.inl (List.mem_iff_getElem?.mpr ⟨j, hj⟩))
  · exact .inr (.inr h)
theorem Ow.has_push {ow : Ow} {a b : Addr} {ds : List D} : (ow.push a ds).has b ↔ b = a ∨ ow.has b := by
  unfold Ow.push Ow.has
  rw [List.map_cons, List.mem_cons]
  constructor
  · rintro (h | h | h)
    · exact .inr (.inl h)
    · exact .inl h
    · exact .inr (.inr h)
  · rintro (h | h | h)
    · exact .inr (.inl h)
    · exact .inl h
    · exact .inr (.inr h)
section
variable {G : Gd} {F : Fr} {φ φ' : List Addr} {ow : Ow} {S S' : Sto} {env : En} {σ : L2.St} {H H' : Hp}
theorem mut_off {i : Nat} {a : Addr} (h : mutA F φ (ow.off i) a) : mutA F φ ow a := by
  rcases h with h | h | h
  · exact .inl h
  · exact .inr (.inl h)
  · exact .inr (.inr (Ow.has_off h))
/-- a name is bound to a datum -/
theorem Rel.setVal {i : Nat} {v : V} {d : D} (R : Rel G F φ ow S env σ H) (r : Rep G φ (mutA F φ (ow.off i)) H v d) : Rel G F φ (ow.off i) S (env.set i (.val d)) (σ.set i (some v)) H := by
  have less : Stp (mutA F φ ow) H (mutA F φ (ow.off i)) H := stp_less fun a => mut_off
  refine ⟨by simp [R.lenE], by simp [Ow.off, R.lenO], fun j e hj => ?_, fun j ds hj => ?_, fun a ds h => ?_, fun j k a h1 h2 => ?_, R.tmI, fun a h => ?_, fun a h => R.owN a (Ow.has_off h), fun n c h => ?_, R.nd, R.pre, R.new, R.there, R.u0, R.keep, R.tabs, R.lenS, fun j a h => ?_⟩
  · rw [List.getElem?_set] at hj
    split at hj
    · rename_i e0
      subst e0
      split at hj
      · rename_i hl
        cases hj
        exact ⟨v, by rw [List.getElem?_set_self (by rw [← R.lenE]; exact hl)], r⟩
      · cases hj
    · rename_i ne
      obtain ⟨w, h1, h2⟩ := R.slot j e hj
      exact ⟨w, by rw [List.getElem?_set_ne ne]; exact h1, h2.st less (List.prefix_refl _)⟩
  · rw [List.getElem?_set] at hj
    split at hj
    · split at hj <;> cases hj
    · rename_i ne
      obtain ⟨a, vs, h1, h2, h3, h4⟩ := R.own j ds hj
      exact ⟨a, vs, by show (ow.sl.set i none)[j]? = _; rw [List.getElem?_set_ne ne]; exact h1, by rw [List.getElem?_set_ne ne]; exact h2, h3, h4.st less (List.prefix_refl _)⟩
  · obtain ⟨vs, h1, h2⟩ := R.tmp a ds h
    exact ⟨vs, h1, h2.st less (List.prefix_refl _)⟩
  · have h1 : (ow.sl.set i none)[j]? = some (some a) := h1
    have h2 : (ow.sl.set i none)[k]? = some (some a) := h2
    rw [List.getElem?_set] at h1 h2
    split at h1
    · split at h1 <;> cases h1
    · split at h2
      · split at h2 <;> cases h2
      · exact R.owI j k a h1 h2
  · have h : some a ∈ ow.sl.set i none := h
    obtain ⟨j, hj⟩ := List.mem_iff_getElem?.mp h
    rw [List.getElem?_set] at hj
    split at hj
    · split at hj <;> cases hj
    · exact R.owT a (List.mem_iff_getElem?.mpr ⟨j, hj⟩)
  · obtain ⟨a, h1, h2⟩ := R.cells n c h
    exact ⟨a, h1, h2.st less (List.prefix_refl _) (fun _ h => h) (fun _ h => h)⟩
  · rcases set_cases (show (ow.sl.set i none)[j]? = some (some a) from h) with ⟨_, e, _⟩ | ⟨ne, h⟩
    · cases e
    · obtain ⟨ds, e⟩ := R.owE j a h
      exact ⟨ds, by rw [List.getElem?_set_ne ne]; exact e⟩
/-- a name is no longer told of -/
theorem Rel.hide {i : Nat} {o : Option V} (R : Rel G F φ ow S env σ H) : Rel G F φ (ow.off i) S (env.set i .hid) (σ.set i o) H := by
  have less : Stp (mutA F φ ow) H (mutA F φ (ow.off i)) H := stp_less fun a => mut_off
  refine ⟨by simp [R.lenE], by simp [Ow.off, R.lenO], fun j e hj => ?_, fun j ds hj => ?_, fun a ds h => ?_, fun j k a h1 h2 => ?_, R.tmI, fun a h => ?_, fun a h => R.owN a (Ow.has_off h), fun n c h => ?_, R.nd, R.pre, R.new, R.there, R.u0, R.keep, R.tabs, R.lenS, fun j a h => ?_⟩
  · rw [List.getElem?_set] at hj
    split at hj
    · split at hj <;> cases hj
    · rename_i ne
      obtain ⟨w, h1, h2⟩ := R.slot j e hj
      exact ⟨w, by rw [List.getElem?_set_ne ne]; exact h1, h2.st less (List.prefix_refl _)⟩
  · rw [List.getElem?_set] at hj
    split at hj
    · split at hj <;> cases hj
    · rename_i ne
      obtain ⟨a, vs, h1, h2, h3, h4⟩ := R.own j ds hj
      exact ⟨a, vs, by show (ow.sl.set i none)[j]? = _; rw [List.getElem?_set_ne ne]; exact h1, by rw [List.getElem?_set_ne ne]; exact h2, h3, h4.st less (List.prefix_refl _)⟩
  · obtain ⟨vs, h1, h2⟩ := R.tmp a ds h
    exact ⟨vs, h1, h2.st less (List.prefix_refl _)⟩
  · have h1 : (ow.sl.set i none)[j]? = some (some a) := h1
    have h2 : (ow.sl.set i none)[k]? = some (some a) := h2
    rw [List.getElem?_set] at h1 h2
    split at h1
    · split at h1 <;> cases h1
    · split at h2
      · split at h2 <;> cases h2
      · exact R.owI j k a h1 h2
  · have h : some a ∈ ow.sl.set i none := h
    obtain ⟨j, hj⟩ := List.mem_iff_getElem?.mp h
    rw [List.getElem?_set] at hj
    split at hj
    · split at hj <;> cases hj
    · exact R.owT a (List.mem_iff_getElem?.mpr ⟨j, hj⟩)
  · obtain ⟨a, h1, h2⟩ := R.cells n c h
    exact ⟨a, h1, h2.st less (List.prefix_refl _) (fun _ h => h) (fun _ h => h)⟩
  · rcases set_cases (show (ow.sl.set i none)[j]? = some (some a) from h) with ⟨_, e, _⟩ | ⟨ne, h⟩
    · cases e
    · obtain ⟨ds, e⟩ := R.owE j a h
      exact ⟨ds, by rw [List.getElem?_set_ne ne]; exact e⟩
/-- a new list is laid -/
theorem Rel.push {p : Addr} {vs : List V} {ds : List D} (R : Rel G F φ ow S env σ H) (r : RepL G φ (mutA F φ ow) H vs ds) (hp : H p = none) : Rel G F φ (ow.push p ds) S env σ (upd H p (.lst vs)) ∧ Stp (mutA F φ ow) H (mutA F φ (ow.push p ds)) (upd H p (.lst vs)) := by
  have st : Stp (mutA F φ ow) H (mutA F φ (ow.push p ds)) (upd H p (.lst vs)) := fun a o nt e n => by
    have ne : a ≠ p := ne_of_none e hp
    refine ⟨by rw [upd_ne ne]; exact e, fun z => n ?_⟩
    rcases z with z | z | z
    · exact .inl z
    · exact .inr (.inl z)
    · rcases Ow.has_push.mp z with z | z
      · exact absurd z ne
      · exact .inr (.inr z)
  have sm : Same H (upd H p (.lst vs)) := same_upd hp
  have nm : ¬ mutA F φ ow p := R.fresh hp
  refine ⟨⟨R.lenE, R.lenO, fun j e hj => ?_, fun j es hj => ?_, fun a es h => ?_, R.owI, ?_, fun a h => ?_, fun a h => ?_, fun n c h => ?_, R.nd, R.pre, R.new, fun a h => same_ne sm (R.there a h), fun a h => ⟨(R.u0 a h).1, same_ne sm (R.u0 a h).2⟩, fun a o nt h1 h2 => sm _ _ (R.keep a o nt h1 h2), R.tabs.ext sm, R.lenS, R.owE⟩, st⟩
  · obtain ⟨w, h1, h2⟩ := R.slot j e hj
    exact ⟨w, h1, h2.st st (List.prefix_refl _)⟩
  · obtain ⟨a, ws, h1, h2, h3, h4⟩ := R.own j es hj
    exact ⟨a, ws, h1, h2, sm _ _ h3, h4.st st (List.prefix_refl _)⟩
  · rcases List.mem_cons.mp h with h | h
    · cases h
      exact ⟨vs, upd_same, r.st st (List.prefix_refl _)⟩
    · obtain ⟨ws, h1, h2⟩ := R.tmp a es h
      exact ⟨ws, sm _ _ h1, h2.st st (List.prefix_refl _)⟩
  · show (p :: ow.tm.map Prod.fst).Nodup
    exact List.nodup_cons.mpr ⟨fun z => nm (.inr (.inr (.inr z))), R.tmI⟩
  · show a ∉ p :: ow.tm.map Prod.fst
    rw [List.mem_cons]
    rintro (z | z)
    · subst z
      exact nm (.inr (.inr (.inl h)))
    · exact R.owT a h z
  · rcases Ow.has_push.mp h with z | z
    · subst z
      exact ⟨fun q => nm (.inr (.inl q)), fun q => nm (.inl q), R.nil hp, ⟨_, nt_lst, upd_same⟩⟩
    · obtain ⟨h1, h2, h3, h4⟩ := R.owN a z
      exact ⟨h1, h2, h3, same_ne sm h4⟩
  · obtain ⟨a, h1, h2⟩ := R.cells n c h
    exact ⟨a, h1, h2.st st (List.prefix_refl _) (fun o => sm _ o) (fun dx => sm _ _)⟩
/-- .. and bound to a name -/
theorem Rel.pop {p : Addr} {ds : List D} {i : Nat} (R : Rel G F φ (ow.push p ds) S env σ H) (hi : i < env.length) : Rel G F φ (ow.on i p) S (env.set i (.own ds)) (σ.set i (some (.ref p))) H ∧ Stp (mutA F φ (ow.push p ds)) H (mutA F φ (ow.on i p)) H := by
  have less : Stp (mutA F φ (ow.push p ds)) H (mutA F φ (ow.on i p)) H := stp_less fun a h => by
    rcases h with h | h | h
    · exact .inl h
    · exact .inr (.inl h)
    · exact .inr (.inr (Ow.has_push.mpr (Ow.has_on h)))
  have pT : p ∉ ow.tm.map Prod.fst := (List.nodup_cons.mp (show (p :: ow.tm.map Prod.fst).Nodup from R.tmI)).1
  have pS : some p ∉ ow.sl := fun z => R.owT p z (by show p ∈ p :: ow.tm.map Prod.fst; exact List.mem_cons_self)
  have io : i < ow.sl.length := by
    have := R.lenO
    have : ow.sl.length = env.length := this
    omega
  refine ⟨⟨by simp [R.lenE], ?_, fun j e hj => ?_, fun j es hj => ?_, fun a es h => ?_, fun j k a h1 h2 => ?_, (List.nodup_cons.mp (show (p :: ow.tm.map Prod.fst).Nodup from R.tmI)).2, fun a h => ?_, fun a h => R.owN a (Ow.has_push.mpr (Ow.has_on h)), fun n c h => ?_, R.nd, R.pre, R.new, R.there, R.u0, R.keep, R.tabs, R.lenS, fun j a h => ?_⟩, less⟩
  · have e := R.lenO
    have e : ow.sl.length = env.length := e
    show (ow.sl.set i (some p)).length = (env.set i _).length
    rw [List.length_set, List.length_set, e]
  · rcases set_cases hj with ⟨_, e, _⟩ | ⟨ne, hj⟩
    · cases e
    · obtain ⟨w, h1, h2⟩ := R.slot j e hj
      exact ⟨w, by rw [List.getElem?_set_ne ne]; exact h1, h2.st less (List.prefix_refl _)⟩
  · rcases set_cases hj with ⟨e0, e, _⟩ | ⟨ne, hj⟩
    · cases e
      subst e0
      obtain ⟨vs, h1, h2⟩ := R.tmp p ds List.mem_cons_self
      exact ⟨p, vs, by show (ow.sl.set j (some p))[j]? = _; rw [List.getElem?_set_self io], by rw [List.getElem?_set_self (by rw [← R.lenE]; exact hi)], h1, h2.st less (List.prefix_refl _)⟩
    · obtain ⟨a, ws, h1, h2, h3, h4⟩ := R.own j es hj
      have h1 : ow.sl[j]? = some (some a) := h1
      exact ⟨a, ws, by show (ow.sl.set i (some p))[j]? = _; rw [List.getElem?_set_ne ne]; exact h1, by rw [List.getElem?_set_ne ne]; exact h2, h3, h4.st less (List.prefix_refl _)⟩
  · obtain ⟨ws, h1, h2⟩ := R.tmp a es (List.mem_cons_of_mem _ h)
    exact ⟨ws, h1, h2.st less (List.prefix_refl _)⟩
  · rcases set_cases (show (ow.sl.set i (some p))[j]? = some (some a) from h1) with ⟨e1, q1, _⟩ | ⟨ne1, q1⟩
    · rcases set_cases (show (ow.sl.set i (some p))[k]? = some (some a) from h2) with ⟨e2, q2, _⟩ | ⟨ne2, q2⟩
      · rw [e1, e2]
      · cases q1
        exact absurd (List.mem_iff_getElem?.mpr ⟨k, q2⟩) pS
    · rcases set_cases (show (ow.sl.set i (some p))[k]? = some (some a) from h2) with ⟨e2, q2, _⟩ | ⟨ne2, q2⟩
      · cases q2
        exact absurd (List.mem_iff_getElem?.mpr ⟨j, q1⟩) pS
      · exact R.owI j k a q1 q2
  · obtain ⟨j, hj⟩ := List.mem_iff_getElem?.mp (show some a ∈ ow.sl.set i (some p) from h)
    rcases set_cases hj with ⟨_, e, _⟩ | ⟨ne, hj⟩
    · cases e
      exact pT
    · exact fun z => R.owT a (show some a ∈ ow.sl from List.mem_iff_getElem?.mpr ⟨j, hj⟩) (by show a ∈ p :: ow.tm.map Prod.fst; exact List.mem_cons_of_mem _ z)
  · obtain ⟨a, h1, h2⟩ := R.cells n c h
    exact ⟨a, h1, h2.st less (List.prefix_refl _) (fun _ h => h) (fun _ h => h)⟩
  · rcases set_cases (show (ow.sl.set i (some p))[j]? = some (some a) from h) with ⟨e, _, _⟩ | ⟨ne, h⟩
    · subst e
      exact ⟨ds, by rw [List.getElem?_set_self hi]⟩
    · obtain ⟨es, e⟩ := R.owE j a h
      exact ⟨es, by rw [List.getElem?_set_ne ne]; exact e⟩
/-- a list just made is a datum from now on -/
theorem Rel.tmpVal {p : Addr} {ds : List D} (R : Rel G F φ (ow.push p ds) S env σ H) : Rel G F φ ow S env σ H ∧ Stp (mutA F φ (ow.push p ds)) H (mutA F φ ow) H ∧ Rep G φ (mutA F φ ow) H (.ref p) (.lst ds) := by
  have less : Stp (mutA F φ (ow.push p ds)) H (mutA F φ ow) H := stp_less fun a h => by
    rcases h with h | h | h
    · exact .inl h
    · exact .inr (.inl h)
    · exact .inr (.inr (Ow.has_push.mpr (.inr h)))
  have pT : p ∉ ow.tm.map Prod.fst := (List.nodup_cons.mp (show (p :: ow.tm.map Prod.fst).Nodup from R.tmI)).1
  have pS : some p ∉ ow.sl := fun z => R.owT p z (by show p ∈ p :: ow.tm.map Prod.fst; exact List.mem_cons_self)
  refine ⟨⟨R.lenE, R.lenO, fun j e hj => ?_, fun j es hj => ?_, fun a es h => ?_, R.owI, (List.nodup_cons.mp (show (p :: ow.tm.map Prod.fst).Nodup from R.tmI)).2, fun a h z => R.owT a h (List.mem_cons_of_mem _ z), fun a h => R.owN a (Ow.has_push.mpr (.inr h)), fun n c h => ?_, R.nd, R.pre, R.new, R.there, R.u0, R.keep, R.tabs, R.lenS, R.owE⟩, less, ?_⟩
  · obtain ⟨w, h1, h2⟩ := R.slot j e hj
    exact ⟨w, h1, h2.st less (List.prefix_refl _)⟩
  · obtain ⟨a, ws, h1, h2, h3, h4⟩ := R.own j es hj
    exact ⟨a, ws, h1, h2, h3, h4.st less (List.prefix_refl _)⟩
  · obtain ⟨ws, h1, h2⟩ := R.tmp a es (List.mem_cons_of_mem _ h)
    exact ⟨ws, h1, h2.st less (List.prefix_refl _)⟩
  · obtain ⟨a, h1, h2⟩ := R.cells n c h
    exact ⟨a, h1, h2.st less (List.prefix_refl _) (fun _ h => h) (fun _ h => h)⟩
  · obtain ⟨vs, h1, h2⟩ := R.tmp p ds List.mem_cons_self
    obtain ⟨n1, n2, _, _⟩ := R.owN p (Ow.has_push.mpr (.inl rfl))
    refine .lst h1 (fun z => ?_) (h2.st less (List.prefix_refl _))
    rcases z with z | z | z | z
    · exact n2 z
    · exact n1 z
    · exact pS z
    · exact pT z
/-- a list of a name's own is a datum from now on -/
theorem Rel.freeze {i : Nat} {ds : List D} (R : Rel G F φ ow S env σ H) (e : env[i]? = some (.own ds)) : ∃ a, σ[i]? = some (some (.ref a)) ∧ Rep G φ (mutA F φ (ow.off i)) H (.ref a) (.lst ds) ∧ Rel G F φ (ow.off i) S (env.set i (.val (.lst ds))) σ H := by
  obtain ⟨a, vs, h1, h2, h3, h4⟩ := R.own i ds e
  have less : Stp (mutA F φ ow) H (mutA F φ (ow.off i)) H := stp_less fun a => mut_off
  have hs : some a ∈ ow.sl := List.mem_iff_getElem?.mpr ⟨i, h1⟩
  obtain ⟨n1, n2, _, _⟩ := R.owN a (.inl hs)
  have r : Rep G φ (mutA F φ (ow.off i)) H (.ref a) (.lst ds) := .lst h3 (fun z => by
    rcases z with z | z | z | z
    · exact n2 z
    · exact n1 z
    · have z : some a ∈ ow.sl.set i none := z
      obtain ⟨j, hj⟩ := List.mem_iff_getElem?.mp z
      rw [List.getElem?_set] at hj
      split at hj
      · split at hj <;> cases hj
      · rename_i ne
        exact ne (R.owI i j a h1 hj)
    · exact R.owT a hs z) (h4.st less (List.prefix_refl _))
  refine ⟨a, h2, r, ?_⟩
  have q := R.setVal (i := i) r
  have es : σ.set i (some (.ref a)) = σ := by
    obtain ⟨hl, e2⟩ := List.getElem?_eq_some_iff.mp h2
    rw [← e2]
    exact List.set_getElem_self hl
  rw [es] at q
  exact q
/-- a list that changes: H at a alone -/
theorem stp_mut {U : Addr → Prop} {a : Addr} {o : HO} (h : U a) : Stp U H U (upd H a o) := fun b u _ e n => ⟨by rw [upd_ne (fun z => n (by rw [z]; exact h))]; exact e, n⟩
theorem upd_neN {a b : Addr} {vs : List V} (h : Lv H b) : Lv (upd H a (.lst vs)) b := by
  obtain ⟨o, n, e⟩ := h
  by_cases z : b = a
  · subst z
    exact ⟨_, nt_lst, upd_same⟩
  · exact ⟨o, n, by rw [upd_ne z]; exact e⟩
theorem tabs_upd {T : List (Addr × Str)} {a : Addr} {o : HO} {vs : List V} (t : LamX.Tabs T H) (h : H a = some (.lst vs)) : LamX.Tabs T (upd H a o) := fun p hp => by
  obtain ⟨ps, h1, h2, h3⟩ := t p hp
  refine ⟨ps, by rw [upd_ne (ne_of h1 h (fun z => by cases z))]; exact h1, h2, fun pos cv hcv => ?_⟩
  obtain ⟨c, e1, e2⟩ := h3 pos cv hcv
  exact ⟨c, e1, by rw [upd_ne (ne_of e2 h (fun z => by unfold LamX.CodeO at z; cases z))]; exact e2⟩
theorem Rel.setOwn {i : Nat} {a : Addr} {ds es : List D} {vs ws : List V} (R : Rel G F φ ow S env σ H) (he : env[i]? = some (.own ds)) (h1 : ow.sl[i]? = some (some a)) (h3 : H a = some (.lst vs)) (r : RepL G φ (mutA F φ ow) H ws es) :
    Rel G F φ ow S (env.set i (.own es)) σ (upd H a (.lst ws)) ∧ Stp (mutA F φ ow) H (mutA F φ ow) (upd H a (.lst ws)) := by
  have hs : some a ∈ ow.sl := List.mem_iff_getElem?.mpr ⟨i, h1⟩
  have st : Stp (mutA F φ ow) H (mutA F φ ow) (upd H a (.lst ws)) := stp_mut (.inr (.inr (.inl hs)))
  obtain ⟨n1, n2, n3, n4⟩ := R.owN a (.inl hs)
  refine ⟨⟨by simp [R.lenE], by simp [R.lenO], fun j e hj => ?_, fun j fs hj => ?_, fun b fs h => ?_, R.owI, R.tmI, R.owT, fun b h => ?_, fun n c h => ?_, R.nd, R.pre, R.new, fun b h => upd_neN (R.there b h), fun b h => ⟨(R.u0 b h).1, upd_neN (R.u0 b h).2⟩, fun b o nt h1 h2 => ?_, tabs_upd R.tabs h3, by simp [R.lenS], fun j b h => ?_⟩, st⟩
  · rw [List.getElem?_set] at hj
    split at hj
    · split at hj <;> cases hj
    · obtain ⟨w, h1, h2⟩ := R.slot j e hj
      exact ⟨w, h1, h2.st st (List.prefix_refl _)⟩
  · rw [List.getElem?_set] at hj
    split at hj
    · rename_i e0
      subst e0
      split at hj
      · cases hj
        obtain ⟨b, us, k1, k2, k3, k4⟩ := R.own i ds he
        rw [h1] at k1
        cases k1
        exact ⟨a, ws, h1, k2, upd_same, r.st st (List.prefix_refl _)⟩
      · cases hj
    · rename_i ne
      obtain ⟨b, us, k1, k2, k3, k4⟩ := R.own j fs hj
      exact ⟨b, us, k1, k2, by rw [upd_ne (fun z => ne (R.owI i j a h1 (by rw [← z]; exact k1)))]; exact k3, k4.st st (List.prefix_refl _)⟩
  · obtain ⟨us, k1, k2⟩ := R.tmp b fs h
    exact ⟨us, by rw [upd_ne (fun z => R.owT a hs (by rw [← z]; exact List.mem_map.mpr ⟨_, h, rfl⟩))]; exact k1, k2.st st (List.prefix_refl _)⟩
  · obtain ⟨m1, m2, m3, m4⟩ := R.owN b h
    exact ⟨m1, m2, m3, upd_neN m4⟩
  · obtain ⟨b, k1, k2⟩ := R.cells n c h
    have nb : b ≠ a := fun z => n1 (by rw [← z]; exact List.mem_iff_getElem?.mpr ⟨n, k1⟩)
    refine ⟨b, k1, k2.st st (List.prefix_refl _) (fun o e => by rw [upd_ne nb]; exact e) (fun dx e => by rw [upd_ne (ne_of e h3 (fun z => by cases z))]; exact e)⟩
  · rw [upd_ne (fun z => n3 o nt (by rw [← z]; exact h1))]
    exact R.keep b o nt h1 h2
  · obtain ⟨fs, e⟩ := R.owE j b h
    by_cases hj : i = j
    · subst hj
      exact ⟨es, by rw [List.getElem?_set_self (List.getElem?_eq_some_iff.mp e).1]⟩
    · exact ⟨fs, by rw [List.getElem?_set_ne hj]; exact e⟩
/-- a list just made grows -/
theorem Rel.setTmp {a : Addr} {ds es : List D} {vs ws : List V} (R : Rel G F φ (ow.push a ds) S env σ H) (h3 : H a = some (.lst vs)) (r : RepL G φ (mutA F φ (ow.push a ds)) H ws es) :
    Rel G F φ (ow.push a es) S env σ (upd H a (.lst ws)) ∧ Stp (mutA F φ (ow.push a ds)) H (mutA F φ (ow.push a es)) (upd H a (.lst ws)) := by
  have hm : ∀ b, mutA F φ (ow.push a es) b ↔ mutA F φ (ow.push a ds) b := fun b => Iff.rfl
  have st0 : Stp (mutA F φ (ow.push a ds)) H (mutA F φ (ow.push a ds)) (upd H a (.lst ws)) := stp_mut (.inr (.inr (Ow.has_push.mpr (.inl rfl))))
  have st : Stp (mutA F φ (ow.push a ds)) H (mutA F φ (ow.push a es)) (upd H a (.lst ws)) := st0
  obtain ⟨n1, n2, n3, n4⟩ := R.owN a (Ow.has_push.mpr (.inl rfl))
  have nd := List.nodup_cons.mp (show (a :: ow.tm.map Prod.fst).Nodup from R.tmI)
  refine ⟨⟨R.lenE, R.lenO, fun j e hj => ?_, fun j fs hj => ?_, fun b fs h => ?_, R.owI, R.tmI, R.owT, fun b h => ?_, fun n c h => ?_, R.nd, R.pre, R.new, fun b h => upd_neN (R.there b h), fun b h => ⟨(R.u0 b h).1, upd_neN (R.u0 b h).2⟩, fun b o nt h1 h2 => ?_, tabs_upd R.tabs h3, by simp [R.lenS], R.owE⟩, st⟩
  · obtain ⟨w, h1, h2⟩ := R.slot j e hj
    exact ⟨w, h1, h2.st st (List.prefix_refl _)⟩
  · obtain ⟨b, us, k1, k2, k3, k4⟩ := R.own j fs hj
    refine ⟨b, us, k1, k2, by rw [upd_ne (fun z => R.owT b (List.mem_iff_getElem?.mpr ⟨j, k1⟩) (by rw [z]; show a ∈ a :: ow.tm.map Prod.fst; exact List.mem_cons_self))]; exact k3, k4.st st (List.prefix_refl _)⟩
  · rcases List.mem_cons.mp h with h | h
    · cases h
      exact ⟨ws, upd_same, r.st st (List.prefix_refl _)⟩
    · obtain ⟨us, k1, k2⟩ := R.tmp b fs (List.mem_cons_of_mem _ h)
      exact ⟨us, by rw [upd_ne (fun z => nd.1 (by rw [← z]; exact List.mem_map.mpr ⟨_, h, rfl⟩))]; exact k1, k2.st st (List.prefix_refl _)⟩
  · obtain ⟨m1, m2, m3, m4⟩ := R.owN b h
    exact ⟨m1, m2, m3, upd_neN m4⟩
  · obtain ⟨b, k1, k2⟩ := R.cells n c h
    have nb : b ≠ a := fun z => n1 (by rw [← z]; exact List.mem_iff_getElem?.mpr ⟨n, k1⟩)
    exact ⟨b, k1, k2.st st (List.prefix_refl _) (fun o e => by rw [upd_ne nb]; exact e) (fun dx e => by rw [upd_ne (ne_of e h3 (fun z => by cases z))]; exact e)⟩
  · rw [upd_ne (fun z => n3 o nt (by rw [← z]; exact h1))]
    exact R.keep b o nt h1 h2
/-- a cell that holds a list changes -/
theorem Rel.setCell {n : Nat} {ds es : List D} {ws : List V} (R : Rel G F φ ow S env σ H) (hc : S[n]? = some (.lst ds)) (r : RepL G φ (mutA F φ ow) H ws es) : ∃ a vs, φ[n]? = some a ∧ H a = some (.lst vs) ∧ RepL G φ (mutA F φ ow) H vs ds ∧
    Rel G F φ ow (S.set n (.lst es)) env σ (upd H a (.lst ws)) ∧ Stp (mutA F φ ow) H (mutA F φ ow) (upd H a (.lst ws)) := by
  obtain ⟨a, k1, k2⟩ := R.cells n _ hc
  cases k2 with
  | lst h3 h4 =>
  have hm : a ∈ φ := List.mem_iff_getElem?.mpr ⟨n, k1⟩
  have st : Stp (mutA F φ ow) H (mutA F φ ow) (upd H a (.lst ws)) := stp_mut (.inr (.inl hm))
  refine ⟨a, _, k1, h3, h4, ⟨R.lenE, R.lenO, fun j e hj => ?_, fun j fs hj => ?_, fun b fs h => ?_, R.owI, R.tmI, R.owT, fun b h => ?_, fun m c h => ?_, R.nd, R.pre, R.new, fun b h => upd_neN (R.there b h), fun b h => ⟨(R.u0 b h).1, upd_neN (R.u0 b h).2⟩, fun b o nt h1 h2 => ?_, tabs_upd R.tabs h3, by simp [R.lenS], R.owE⟩, st⟩
  · obtain ⟨w, h1, h2⟩ := R.slot j e hj
    exact ⟨w, h1, h2.st st (List.prefix_refl _)⟩
  · obtain ⟨b, us, k1, k2, k3, k4⟩ := R.own j fs hj
    exact ⟨b, us, k1, k2, by rw [upd_ne (fun z => (R.owN b (.inl (List.mem_iff_getElem?.mpr ⟨j, k1⟩))).1 (by rw [z]; exact hm))]; exact k3, k4.st st (List.prefix_refl _)⟩
  · obtain ⟨us, k1, k2⟩ := R.tmp b fs h
    exact ⟨us, by rw [upd_ne (fun z => (R.owN b (.inr (List.mem_map.mpr ⟨_, h, rfl⟩))).1 (by rw [z]; exact hm))]; exact k1, k2.st st (List.prefix_refl _)⟩
  · obtain ⟨m1, m2, m3, m4⟩ := R.owN b h
    exact ⟨m1, m2, m3, upd_neN m4⟩
  · rw [List.getElem?_set] at h
    split at h
    · rename_i e0
      subst e0
      split at h
      · cases h
        exact ⟨a, k1, .lst upd_same (r.st st (List.prefix_refl _))⟩
      · cases h
    · rename_i ne
      obtain ⟨b, q1, q2⟩ := R.cells m c h
      have nb : b ≠ a := fun z => by
        rw [z] at q1
        obtain ⟨i1, j1⟩ := List.getElem?_eq_some_iff.mp k1
        obtain ⟨i2, j2⟩ := List.getElem?_eq_some_iff.mp q1
        exact ne ((List.getElem_inj R.nd).mp (j1.trans j2.symm))
      exact ⟨b, q1, q2.st st (List.prefix_refl _) (fun o e => by rw [upd_ne nb]; exact e) (fun dx e => by rw [upd_ne (ne_of e h3 (fun z => by cases z))]; exact e)⟩
  · by_cases hb : b = a
    · subst hb
      rcases R.new b hm with z | z
      · exact absurd z h2
      · exact absurd h1 (z o nt)
    · rw [upd_ne hb]
      exact R.keep b o nt h1 h2
/-- a list just made is a cell from now on -/
theorem Rel.tmpCell {p : Addr} {ds : List D} (R : Rel G F φ (ow.push p ds) S env σ H) : Rel G F (φ ++ [p]) ow (S ++ [.lst ds]) env σ H ∧ Stp (mutA F φ (ow.push p ds)) H (mutA F (φ ++ [p]) ow) H := by
  have eqm : ∀ b, mutA F (φ ++ [p]) ow b → mutA F φ (ow.push p ds) b := fun b h => by
    rcases h with h | h | h
    · exact .inl h
    · rcases List.mem_append.mp h with h | h
      · exact .inr (.inl h)
      · exact .inr (.inr (Ow.has_push.mpr (.inl (by simpa using h))))
    · exact .inr (.inr (Ow.has_push.mpr (.inr h)))
  have less : Stp (mutA F φ (ow.push p ds)) H (mutA F (φ ++ [p]) ow) H := stp_less eqm
  have hS := R.lenS
  have pf : φ <+: φ ++ [p] := List.prefix_append _ _
  obtain ⟨n1, n2, n3, n4⟩ := R.owN p (Ow.has_push.mpr (.inl rfl))
  have nd := List.nodup_cons.mp (show (p :: ow.tm.map Prod.fst).Nodup from R.tmI)
  have pS : some p ∉ ow.sl := fun z => R.owT p z (by show p ∈ p :: ow.tm.map Prod.fst; exact List.mem_cons_self)
  refine ⟨⟨R.lenE, R.lenO, fun j e hj => ?_, fun j es hj => ?_, fun a es h => ?_, R.owI, nd.2, fun a h z => R.owT a h (List.mem_cons_of_mem _ z), fun a h => ?_, fun n c h => ?_, ?_, R.pre.trans pf, fun a h => ?_, fun a h => ?_, fun a h => ?_, R.keep, R.tabs, by simp [R.lenS], R.owE⟩, less⟩
  · obtain ⟨w, h1, h2⟩ := R.slot j e hj
    exact ⟨w, h1, h2.st less pf⟩
  · obtain ⟨a, ws, h1, h2, h3, h4⟩ := R.own j es hj
    exact ⟨a, ws, h1, h2, h3, h4.st less pf⟩
  · obtain ⟨ws, h1, h2⟩ := R.tmp a es (List.mem_cons_of_mem _ h)
    exact ⟨ws, h1, h2.st less pf⟩
  · obtain ⟨m1, m2, m3, m4⟩ := R.owN a (Ow.has_push.mpr (.inr h))
    refine ⟨fun z => ?_, m2, m3, m4⟩
    rcases List.mem_append.mp z with z | z
    · exact m1 z
    · have z : a = p := by simpa using z
      subst z
      rcases h with h | h
      · exact pS h
      · exact nd.1 h
  · rw [List.getElem?_append] at h
    split at h
    · obtain ⟨a, k1, k2⟩ := R.cells n c h
      exact ⟨a, pre_at pf k1, k2.st less pf (fun _ h => h) (fun _ h => h)⟩
    · rename_i hn
      have e0 : n - S.length = 0 := by
        cases q : n - S.length with
        | zero => rfl
        | succ m => rw [q] at h; simp at h
      have en : n = φ.length := by omega
      rw [e0] at h
      cases h
      obtain ⟨vs, h1, h2⟩ := R.tmp p ds List.mem_cons_self
      exact ⟨p, by rw [en]; simp, .lst h1 (h2.st less pf)⟩
  · rw [List.nodup_append]
    refine ⟨R.nd, by simp, fun a ha b hb => ?_⟩
    have hb : b = p := by simpa using hb
    subst hb
    rintro rfl
    exact n1 ha
  · rcases List.mem_append.mp h with h | h
    · exact R.new a h
    · have h : a = p := by simpa using h
      subst h
      exact .inr n3
  · rcases List.mem_append.mp h with h | h
    · exact R.there a h
    · have h : a = p := by simpa using h
      subst h
      exact n4
  · refine ⟨fun z => ?_, (R.u0 a h).2⟩
    rcases List.mem_append.mp z with z | z
    · exact (R.u0 a h).1 z
    · have z : a = p := by simpa using z
      subst z
      exact n2 h
end
end DL
set_option Elab.async false
set_option linter.all false
set_option maxRecDepth 100000
/-! DL6: statements, targets, loops, comprehensions by data -/
namespace DL
open PySem PySem.Spec PyProof.Rows L2

abbrev MS := En → Sto → RS
def PostS (G : Gd) (F : Fr) (W : WX) (φ : List Addr) (ow : Ow) (H : Hp) : RS → Ends → Prop
  | .nx e S', D => ∀ φ' ow' σ' H', Rel G F φ' ow' S' e σ' H' → Stp (mutA F φ ow) H (mutA F φ' ow') H' → φ <+: φ' → D.nx σ' H'
  | .bk e S', D => ∀ φ' ow' σ' H', Rel G F φ' ow' S' e σ' H' → Stp (mutA F φ ow) H (mutA F φ' ow') H' → φ <+: φ' → D.bk σ' H'
  | .ct e S', D => ∀ φ' ow' σ' H', Rel G F φ' ow' S' e σ' H' → Stp (mutA F φ ow) H (mutA F φ' ow') H' → φ <+: φ' → D.ct σ' H'
  | .rt d S', D => ∀ φ' H' v, Rel G F φ' ⟨[], []⟩ S' [] [] H' → Rep G φ' (mutA F φ' ⟨[], []⟩) H' v d → D.rt v H'
  | .exn c p e S', _ => ∀ φ' ow' σ' H' cls dd, Rel G F φ' ow' S' e σ' H' → Stp (mutA F φ ow) H (mutA F φ' ow') H' → φ <+: φ' → XRep G φ' (mutA F φ' ow') H' c p cls dd → W cls dd σ' H'
  | .stuck, _ => False
def LiftS (G : Gd) (F : Fr) (W : WX) (ms : MS) : TS := fun D σ H => ∃ φ ow S env, Rel G F φ ow S env σ H ∧ PostS G F W φ ow H (ms env S) D
section
variable {α β : Type} {G : Gd} {F : Fr} {W : WX} {rp : RP α β} {φ φ1 : List Addr} {ow ow1 : Ow} {S : Sto} {env : En} {σ : L2.St} {H H1 : Hp} {D : Ends}
theorem PostS.go {r : RS} (h : PostS G F W φ ow H r D) (s : Stp (mutA F φ ow) H (mutA F φ1 ow1) H1) (p : φ <+: φ1) : PostS G F W φ1 ow1 H1 r D := by
  cases r with
  | nx e S' => exact fun φ' ow' σ' H' R' s' p' => h φ' ow' σ' H' R' (s.trans s') (p.trans p')
  | bk e S' => exact fun φ' ow' σ' H' R' s' p' => h φ' ow' σ' H' R' (s.trans s') (p.trans p')
  | ct e S' => exact fun φ' ow' σ' H' R' s' p' => h φ' ow' σ' H' R' (s.trans s') (p.trans p')
  | rt d S' => exact h
  | exn c q e S' => exact fun φ' ow' σ' H' cls dd R' s' p' x => h φ' ow' σ' H' cls dd R' (s.trans s') (p.trans p') x
  | stuck => exact h
theorem PostS.nx (h : PostS G F W φ ow H (.nx env S) D) (R : Rel G F φ ow S env σ H) : D.nx σ H := h φ ow σ H R Stp.refl (List.prefix_refl _)
theorem lift_bS {m : M α} {k : α → Sto → RS} {Q1 : β → Hp → Prop} (R : Rel G F φ ow S env σ H) (h : PostS G F W φ ow H ((m env S).bndS env k) D)
    (hk : ∀ a S1 φ1 H1 v, Rel G F φ1 ow S1 env σ H1 → Stp (mutA F φ ow) H (mutA F φ1 ow) H1 → φ <+: φ1 → rp env ow φ1 (mutA F φ1 ow) H1 v a → PostS G F W φ1 ow H1 (k a S1) D → Q1 v H1) : LiftR G F W rp m σ H Q1 := by
  refine ⟨φ, ow, S, env, R, ?_⟩
  cases e : m env S with
  | ok a S1 =>
    rw [e] at h
    have h' : PostS G F W φ ow H (k a S1) D := h
    exact fun φ1 H1 v R1 s1 p1 r1 => hk a S1 φ1 H1 v R1 s1 p1 r1 (h'.go s1 p1)
  | exn c q S1 =>
    rw [e] at h
    have h' : PostS G F W φ ow H (.exn c q env S1) D := h
    exact fun φ' H' cls dd R' s' p' x => h' φ' ow σ H' cls dd R' s' p' x
  | stuck =>
    rw [e] at h
    exact h
end
section
variable (X : Cx) (T : List (Addr × Str)) (F : Fr) (W : WX)
def SS (m : MS) (st : Stmt) : Prop := PS X st (LiftS (gX X T) F W m)
def SSs (m : MS) (st : List Stmt) : Prop := PSs X st (LiftS (gX X T) F W m)
end
theorem PS.imp {X : Cx} {e : Stmt} {t t' : TS} (h : PS X e t) (i : ∀ D σ H, t' D σ H → t D σ H) : PS X e t' := ⟨fun pins s σ H D I q => h.run pins s σ H D I (i D σ H q)⟩
theorem PSs.imp {X : Cx} {e : List Stmt} {t t' : TS} (h : PSs X e t) (i : ∀ D σ H, t' D σ H → t D σ H) : PSs X e t' := ⟨fun pins s σ H D I q => h.run pins s σ H D I (i D σ H q)⟩

/-! ### plain meanings -/
def mNext : MS := fun e S => .nx e S
def mSeq (m1 m2 : MS) : MS := fun e S => match m1 e S with
  | .nx e1 S1 => m2 e1 S1
  | r => r
def mIfS (mc : M Bool) (m1 m2 : MS) : MS := fun e S => (mc e S).bndS e fun b S1 => if b = true then m1 e S1 else m2 e S1
def mRet (m : M D) : MS := fun e S => (m e S).bndS e fun d S1 => .rt d S1
def mRetN : MS := fun _ S => .rt .non S
def mRetOwn (i : Nat) : MS := fun e S => match e[i]? with
  | some (.own ds) => .rt (.lst ds) S
  | _ => .stuck
def mDrop (m : M D) : MS := fun e S => (m e S).bndS e fun _ S1 => .nx e S1
def mSet (i : Nat) (m : M D) : MS := fun e S => (m e S).bndS e fun d S1 => .nx (e.set i (.val d)) S1
def mFreeze (i : Nat) : MS := fun e S => match e[i]? with
  | some (.own ds) => .nx (e.set i (.val (.lst ds))) S
  | _ => .stuck
section
variable {X : Cx} {T : List (Addr × Str)} {F : Fr} {W : WX} {e a b : Expr} {es : List Expr} {pos : Pos} {ma mb : M D} {ml : M (List D)} {st : Stmt} {sts sts2 : List Stmt} {m1 m2 : MS} {na : M Bool}
theorem sss_nil : SSs X T F W mNext [] := PSs.imp pss_nil fun D σ H ⟨φ, ow, S, env, R, q⟩ => PostS.nx q R
theorem lift_seq {G : Gd} {t1 t2 : TS} (h1 : ∀ D σ H, LiftS G F W m1 D σ H → t1 D σ H) (h2 : ∀ D σ H, LiftS G F W m2 D σ H → t2 D σ H) (D : Ends) (σ : L2.St) (H : Hp) (h : LiftS G F W (mSeq m1 m2) D σ H) : tSeq t1 t2 D σ H := by
  obtain ⟨φ, ow, S, env, R, q⟩ := h
  refine h1 _ _ _ ⟨φ, ow, S, env, R, ?_⟩
  unfold mSeq at q
  cases e : m1 env S with
  | nx e1 S1 =>
    rw [e] at q
    have q : PostS G F W φ ow H (m2 e1 S1) D := q
    exact fun φ' ow' σ' H' R' s' p' => h2 _ _ _ ⟨φ', ow', S1, e1, R', q.go s' p'⟩
  | bk e1 S1 => rw [e] at q; exact q
  | ct e1 S1 => rw [e] at q; exact q
  | rt d S1 => rw [e] at q; exact q
  | exn c p e1 S1 => rw [e] at q; exact q
  | stuck => rw [e] at q; exact q.elim
theorem sss_cons (h1 : SS X T F W m1 st) (h2 : SSs X T F W m2 sts) : SSs X T F W (mSeq m1 m2) (st :: sts) := PSs.imp (pss_cons h1 h2) (lift_seq (fun _ _ _ z => z) fun _ _ _ z => z)
theorem sss_one (h1 : SS X T F W m1 st) : SSs X T F W m1 [st] := pss_one h1
theorem ss_pass : SS X T F W mNext (.Pass pos) := PS.imp ps_pass fun D σ H ⟨φ, ow, S, env, R, q⟩ => PostS.nx q R
theorem ss_doc {x : Str} {j : Nat} {pos' : Pos} : SS X T F W mNext (.Expr (.Constant (.str x) j pos) pos') := PS.imp ps_doc fun D σ H ⟨φ, ow, S, env, R, q⟩ => PostS.nx q R
theorem ss_break : SS X T F W (fun e S => .bk e S) (.Break pos) := PS.imp ps_break fun D σ H ⟨φ, ow, S, env, R, q⟩ => q φ ow σ H R Stp.refl (List.prefix_refl _)
theorem ss_continue : SS X T F W (fun e S => .ct e S) (.Continue pos) := PS.imp ps_continue fun D σ H ⟨φ, ow, S, env, R, q⟩ => q φ ow σ H R Stp.refl (List.prefix_refl _)
theorem ss_if {c : Expr} (hc : ST X T F W na c) (ha : SSs X T F W m1 sts) (hb : SSs X T F W m2 sts2) : SS X T F W (mIfS na m1 m2) (.If c sts sts2 pos) :=
  PS.imp (ps_if hc ha hb) fun D σ H ⟨φ, ow, S, env, R, q⟩ => lift_bS R q fun k S1 φ1 H1 v R1 s1 p1 r1 q1 => by
    subst r1
    cases v with
    | true => exact ⟨φ1, ow, S1, env, R1, q1⟩
    | false => exact ⟨φ1, ow, S1, env, R1, q1⟩
theorem stp_end {φ : List Addr} {ow : Ow} {H : Hp} : Stp (mutA F φ ow) H (mutA F φ ⟨[], []⟩) H := stp_less fun a h => by
  rcases h with h | h | h
  · exact .inl h
  · exact .inr (.inl h)
  · simp [Ow.has] at h
theorem ss_ret (h : SE X T F W ma e) : SS X T F W (mRet ma) (.Return (some e) pos) :=
  PS.imp (ps_ret h) fun D σ H ⟨φ, ow, S, env, R, q⟩ => lift_bS R q fun d S1 φ1 H1 v R1 s1 p1 r1 q1 => q1 φ1 H1 v R1.drop (r1.st stp_end (List.prefix_refl _))
theorem ss_retN : SS X T F W mRetN (.Return none pos) := PS.imp ps_retN fun D σ H ⟨φ, ow, S, env, R, q⟩ => q φ H .non R.drop .non
theorem ss_retOwn (i : Nat) {x : Str} {p : Pos} (hN : X.N[i]? = some x := by rfl) (hv : Vis X.env.scope x := by first | exact Or.inl rfl | exact Or.inr (Or.inl rfl) | exact Or.inr (Or.inr rfl)) (hd : (x == ("__debug__" : Str)) = false := by decide)
    (hcd : (x == ("__classdict__" : Str)) = false := by decide) : SS X T F W (mRetOwn i) (.Return (some (.Name x p)) pos) := PS.imp (ps_ret (pe_var hN hv hd hcd)) fun D σ H ⟨φ, ow, S, env, R, q⟩ => by
  unfold mRetOwn at q
  split at q
  · rename_i ds hds
    obtain ⟨a, h1, h2, h3⟩ := R.freeze hds
    exact ⟨.ref a, h1, q φ H (.ref a) R.drop (h2.st stp_end (List.prefix_refl _))⟩
  · exact q.elim
theorem ss_expr (h : SE X T F W ma e) (hs : swapsWith e none pos.line X.env = pure false := by rfl) : SS X T F W (mDrop ma) (.Expr e pos) :=
  PS.imp (ps_expr h hs) fun D σ H ⟨φ, ow, S, env, R, q⟩ => lift_bS R q fun d S1 φ1 H1 v R1 s1 p1 r1 q1 => PostS.nx q1 R1
theorem off_stp {φ : List Addr} {ow : Ow} {H : Hp} {i : Nat} : Stp (mutA F φ ow) H (mutA F φ (ow.off i)) H := stp_less fun a => mut_off
theorem ss_set (i : Nat) {x : Str} {pos' : Pos} (hN : X.N.Nodup) (hi : X.N[i]? = some x) (hx : Loc X.env.scope x) (he : SE X T F W ma e) (hs : swapsWith e (some (.Name x pos')) pos.line X.env = pure false := by rfl) (hf : X.fn x = true ∨ X.env.scope.names.lookup x = some .local := by first | exact .inl rfl | exact .inr rfl | assumption) :
    SS X T F W (mSet i ma) (.Assign [.Name x pos'] e pos) :=
  PS.imp (ps_set hN hi hx he hs hf) fun D σ H ⟨φ, ow, S, env, R, q⟩ => lift_bS R q fun d S1 φ1 H1 v R1 s1 p1 r1 q1 => q1 φ1 (ow.off i) _ H1 (R1.setVal (r1.st off_stp (List.prefix_refl _))) off_stp (List.prefix_refl _)
/-- a list of a name's own is a datum from here on -/
theorem sss_freeze (i : Nat) (h : SSs X T F W m2 sts) : SSs X T F W (mSeq (mFreeze i) m2) sts := PSs.imp h fun D σ H ⟨φ, ow, S, env, R, q⟩ => by
  unfold mSeq mFreeze at q
  cases e : env[i]? with
  | none => rw [e] at q; exact q.elim
  | some s =>
    rw [e] at q
    cases s with
    | own ds =>
      obtain ⟨a, h1, h2, h3⟩ := R.freeze e
      exact ⟨φ, ow.off i, S, _, h3, PostS.go q off_stp (List.prefix_refl _)⟩
    | val d => exact q.elim
    | hid => exact q.elim
end

/-! ### new lists -/
def PostN (G : Gd) (F : Fr) (W : WX) (φ : List Addr) (ow : Ow) (env : En) (σ : L2.St) (H : Hp) : Res (List D) → VK → Prop
  | .ok ds S', Q => ∀ φ' H' a, Rel G F φ' (ow.push a ds) S' env σ H' → Stp (mutA F φ ow) H (mutA F φ' (ow.push a ds)) H' → φ <+: φ' → Q (.ref a) H'
  | .exn c p S', _ => ∀ φ' H' cls dd, Rel G F φ' ow S' env σ H' → Stp (mutA F φ ow) H (mutA F φ' ow) H' → φ <+: φ' → XRep G φ' (mutA F φ' ow) H' c p cls dd → W cls dd σ H'
  | .stuck, _ => False
def LiftN (G : Gd) (F : Fr) (W : WX) (m : M (List D)) : TE := fun σ H Q => ∃ φ ow S env, Rel G F φ ow S env σ H ∧ PostN G F W φ ow env σ H (m env S) Q
def SN (X : Cx) (T : List (Addr × Str)) (F : Fr) (W : WX) (m : M (List D)) (e : Expr) : Prop := PE X e (LiftN (gX X T) F W m)
def mLsV (m : M (List D)) : M D := fun e S => (m e S).bnd fun ds S1 => .ok (.lst ds) S1
def mSetOwn (i : Nat) (m : M (List D)) : MS := fun e S => (m e S).bndS e fun ds S1 => if i < e.length then .nx (e.set i (.own ds)) S1 else .stuck
section
variable {X : Cx} {T : List (Addr × Str)} {F : Fr} {W : WX} {e a b : Expr} {es : List Expr} {pos : Pos} {ma mb : M D} {ml : M (List D)} {G : Gd} {φ φ1 : List Addr} {ow : Ow} {S : Sto} {env : En} {σ : L2.St} {H H1 : Hp} {D : Ends}
theorem PostN.go {r : Res (List DL.D)} {Q : VK} (h : PostN G F W φ ow env σ H r Q) (s : Stp (mutA F φ ow) H (mutA F φ1 ow) H1) (p : φ <+: φ1) : PostN G F W φ1 ow env σ H1 r Q := by
  cases r with
  | ok a S' => exact fun φ' H' v R' s' p' => h φ' H' v R' (s.trans s') (p.trans p')
  | exn c q S' => exact fun φ' H' cls dd R' s' p' x => h φ' H' cls dd R' (s.trans s') (p.trans p') x
  | stuck => exact h
/-- a step ahead of a new list -/
theorem lift_bN {α β : Type} {rp : RP α β} {m : M α} {k : α → Sto → Res (List DL.D)} {Q : VK} {Q1 : β → Hp → Prop} (R : Rel G F φ ow S env σ H) (h : PostN G F W φ ow env σ H ((m env S).bnd k) Q)
    (hk : ∀ a S1 φ1 H1 v, Rel G F φ1 ow S1 env σ H1 → Stp (mutA F φ ow) H (mutA F φ1 ow) H1 → φ <+: φ1 → rp env ow φ1 (mutA F φ1 ow) H1 v a → PostN G F W φ1 ow env σ H1 (k a S1) Q → Q1 v H1) : LiftR G F W rp m σ H Q1 := by
  refine ⟨φ, ow, S, env, R, ?_⟩
  cases e : m env S with
  | ok a S1 =>
    rw [e] at h
    have h' : PostN G F W φ ow env σ H (k a S1) Q := h
    exact fun φ1 H1 v R1 s1 p1 r1 => hk a S1 φ1 H1 v R1 s1 p1 r1 (h'.go s1 p1)
  | exn c q S1 =>
    rw [e] at h
    exact h
  | stuck =>
    rw [e] at h
    exact h
/-- laid at the end -/
theorem PostN.laid {ds : List DL.D} {vs : List V} {Q : VK} {p : Addr} (h : PostN G F W φ ow env σ H (.ok ds S) Q) (R : Rel G F φ ow S env σ H) (r : RepL G φ (mutA F φ ow) H vs ds) (hp : H p = none) : Q (.ref p) (upd H p (.lst vs)) := by
  obtain ⟨R1, s1⟩ := R.push r hp
  exact h φ _ p R1 s1 (List.prefix_refl _)
theorem sn_lst (h : SA X T F W ml es) : SN X T F W (fun e S => (ml e S).bnd fun ds S1 => if ds.length ≤ 100000 then .ok ds S1 else .stuck) (.List es pos) :=
  PE.imp (pe_lst h) fun σ H Q ⟨φ, ow, S, env, R, q⟩ => lift_bN R q fun ds S1 φ1 H1 vs R1 s1 p1 r1 q1 => by
    split at q1
    · rename_i hz
      exact ⟨by rw [r1.length]; exact sz5 hz, fun p hp => PostN.laid q1 R1 r1 hp⟩
    · exact q1.elim
/-- list(x) -/
def itemsAny (S : Sto) : DL.D → Option (List DL.D)
  | .tup ds => some ds
  | .scr ns => some (ns.map .int)
  | d => lsOf S d
theorem sn_list {p : Pos} (hg : Gl X "list") (hm : X.mg "list" = none) (ha : SB X T F W ma a) (he : starEach [a] X.env = (false, eval a X.env) :: starEach [] X.env := by rfl) :
    SN X T F W (fun e S => (ma e S).bnd fun d S1 => oR (itemsAny S1 d) S1) (.Call (.Name "list" p) [a] [] pos) :=
  PE.imp (pe_callTy call_list_of hg hm PyProof.Rows.boot_list (pa_cons ha pa_nil he) (he := he)) fun σ H Q ⟨φ, ow, S, env, R, q⟩ => lift_bN R q fun d S1 φ1 H1 v R1 s1 p1 r1 q1 => by
    have r1 := r1.h R1
    cases hi : itemsAny S1 d with
    | none => rw [hi] at q1; exact q1.elim
    | some ds =>
      rw [hi] at q1
      unfold itemsAny at hi
      split at hi
      · cases hi
        obtain ⟨x, vs, rfl, k, rl⟩ := r1.tup
        exact ⟨x, vs, rfl, .inr k, fun l hl => PostN.laid q1 R1 rl hl⟩
      · cases hi
        obtain ⟨x, rfl, k⟩ := r1.scr
        exact ⟨x, _, rfl, .inl k, fun l hl => PostN.laid q1 R1 RepL.ofInts hl⟩
      · obtain ⟨x, vs, rfl, k, rl⟩ := r1.ls R1.cells hi
        exact ⟨x, vs, rfl, .inl (.inl (.inl k)), fun l hl => PostN.laid q1 R1 rl hl⟩
/-- xs + ys, xs * k: new lists -/
theorem sn_add (ha : SB X T F W ma a) (hb : SB X T F W mb b) : SN X T F W (fun e S => (ma e S).bnd fun d S1 => (mb e S1).bnd fun d2 S2 => match lsOf S2 d, lsOf S2 d2 with
    | some x, some y => if x.length + y.length ≤ 100000 then .ok (x ++ y) S2 else .stuck
    | _, _ => .stuck) (.BinOp a .Add b pos) :=
  PE.imp (pe_op op_cat ha hb) fun σ H Q ⟨φ, ow, S, env, R, q⟩ => lift_bN R q fun d S1 φ1 H1 v R1 s1 p1 r1 q1 => lift_bN R1 q1 fun d2 S2 φ2 H2 v2 R2 s2 p2 r2 q2 => by
    split at q2
    · rename_i x y e1 e2
      split at q2
      · rename_i hz
        obtain ⟨p1, vs, rfl, k1, l1⟩ := ((r1.st s2 p2).h R2).ls R2.cells e1
        obtain ⟨p2, ws, rfl, k2, l2⟩ := (r2.h R2).ls R2.cells e2
        exact ⟨p1, p2, vs, ws, rfl, rfl, k1, k2, by rw [l1.length, l2.length]; exact sz5 hz, fun p hp => PostN.laid q2 R2 (l1.app l2) hp⟩
      · exact q2.elim
    · exact q2.elim
theorem sn_mul (ha : SB X T F W ma a) (hb : SB X T F W mb b) : SN X T F W (fun e S => (ma e S).bnd fun d S1 => (mb e S1).bnd fun d2 S2 => match lsOf S2 d, d2 with
    | some x, .int k => if -1000 ≤ k ∧ k ≤ 1000 ∧ x.length ≤ 1000 then .ok (List.replicate k.toNat x).flatten S2 else .stuck
    | _, _ => .stuck) (.BinOp a .Mult b pos) :=
  PE.imp (pe_op op_rep ha hb) fun σ H Q ⟨φ, ow, S, env, R, q⟩ => lift_bN R q fun d S1 φ1 H1 v R1 s1 p1 r1 q1 => lift_bN R1 q1 fun d2 S2 φ2 H2 v2 R2 s2 p2 r2 q2 => by
    split at q2
    · rename_i x k e1
      split at q2
      · rename_i hz
        obtain ⟨p1, vs, rfl, k1, l1⟩ := ((r1.st s2 p2).h R2).ls R2.cells e1
        refine ⟨p1, k, vs, rfl, (r2.h R2).int, k1, by omega, by omega, ?_, fun p hp => PostN.laid q2 R2 (l1.rep _) hp⟩
        rw [l1.length, sizeLine_eq]
        have a1 : x.length * k.toNat ≤ 1000 * 1000 := Nat.mul_le_mul hz.2.2 (by omega)
        omega
      · exact q2.elim
    · exact q2.elim
/-- as a datum -/
theorem se_new (h : SN X T F W ml e) : SE X T F W (mLsV ml) e := PE.imp h fun σ H Q ⟨φ, ow, S, env, R, q⟩ => ⟨φ, ow, S, env, R, by
  unfold mLsV at q
  cases e : ml env S with
  | ok ds S1 =>
    rw [e] at q
    intro φ' H' p R1 s1 p1
    obtain ⟨R2, s2, r2⟩ := R1.tmpVal
    exact q φ' H' (.ref p) R2 (s1.trans s2) p1 r2
  | exn c p S1 => rw [e] at q; exact q
  | stuck => rw [e] at q; exact q⟩
/-- as a cell -/
def mCellN (m : M (List DL.D)) : M DL.D := fun e S => (m e S).bnd fun ds S1 => .ok (.ref S1.length) (S1 ++ [.lst ds])
theorem se_cell (h : SN X T F W ml e) : SE X T F W (mCellN ml) e := PE.imp h fun σ H Q ⟨φ, ow, S, env, R, q⟩ => ⟨φ, ow, S, env, R, by
  unfold mCellN at q
  cases e : ml env S with
  | ok ds S1 =>
    rw [e] at q
    intro φ' H' p R1 s1 p1
    obtain ⟨R2, s2⟩ := R1.tmpCell
    exact q (φ' ++ [p]) H' (.ref p) R2 (s1.trans s2) (p1.trans (List.prefix_append _ _)) (.ref (by rw [R1.lenS]; simp))
  | exn c p S1 => rw [e] at q; exact q
  | stuck => rw [e] at q; exact q⟩
theorem lift_bSN {m : M (List DL.D)} {k : List DL.D → Sto → RS} {Q1 : VK} (R : Rel G F φ ow S env σ H) (h : PostS G F W φ ow H ((m env S).bndS env k) D)
    (hk : ∀ ds S1 φ1 H1 p, Rel G F φ1 (ow.push p ds) S1 env σ H1 → Stp (mutA F φ ow) H (mutA F φ1 (ow.push p ds)) H1 → φ <+: φ1 → PostS G F W φ1 (ow.push p ds) H1 (k ds S1) D → Q1 (.ref p) H1) : LiftN G F W m σ H Q1 := by
  refine ⟨φ, ow, S, env, R, ?_⟩
  cases e : m env S with
  | ok a S1 =>
    rw [e] at h
    have h' : PostS G F W φ ow H (k a S1) D := h
    exact fun φ1 H1 p R1 s1 p1 => hk a S1 φ1 H1 p R1 s1 p1 (h'.go s1 p1)
  | exn c q S1 =>
    rw [e] at h
    have h' : PostS G F W φ ow H (.exn c q env S1) D := h
    exact fun φ' H' cls dd R' s' p' x => h' φ' ow σ H' cls dd R' s' p' x
  | stuck =>
    rw [e] at h
    exact h
theorem lift_setOwn {i : Nat} (D : Ends) (σ : L2.St) (H : Hp) (h : LiftS G F W (mSetOwn i ml) D σ H) : tAsg (LiftN G F W ml) (gName i) D σ H := by
  obtain ⟨φ, ow, S, env, R, q⟩ := h
  refine lift_bSN R q fun ds S1 φ1 H1 p R1 s1 p1 q1 => ?_
  split at q1
  · rename_i hi
    obtain ⟨R2, s2⟩ := R1.pop hi
    exact q1 φ1 (ow.on i p) _ H1 R2 s2 (List.prefix_refl _)
  · exact q1.elim
theorem ss_setOwn (i : Nat) {x : Str} {pos' : Pos} (hN : X.N.Nodup) (hi : X.N[i]? = some x) (hx : Loc X.env.scope x) (he : SN X T F W ml e) (hs : swapsWith e (some (.Name x pos')) pos.line X.env = pure false := by rfl) (hf : X.fn x = true ∨ X.env.scope.names.lookup x = some .local := by first | exact .inl rfl | exact .inr rfl | assumption) :
    SS X T F W (mSetOwn i ml) (.Assign [.Name x pos'] e pos) := PS.imp (ps_set hN hi hx he hs hf) lift_setOwn
end

/-! ### targets -/
abbrev MG := D → En → Sto → RS
def LiftG (G : Gd) (F : Fr) (W : WX) (mg : MG) : TG := fun v σ H Q => ∃ φ ow S env d, Rel G F φ ow S env σ H ∧ Rep G φ (mutA F φ ow) H v d ∧ PostS G F W φ ow H (mg d env S) { nx := Q, rt := fun _ _ => False }
def LiftGs (G : Gd) (F : Fr) (W : WX) (mg : List D → En → Sto → RS) : TGs := fun vs σ H Q => ∃ φ ow S env ds, Rel G F φ ow S env σ H ∧ RepL G φ (mutA F φ ow) H vs ds ∧ PostS G F W φ ow H (mg ds env S) { nx := Q, rt := fun _ _ => False }
def SG (X : Cx) (T : List (Addr × Str)) (F : Fr) (W : WX) (mg : MG) (e : Expr) : Prop := PG X e (LiftG (gX X T) F W mg)
def SGs (X : Cx) (T : List (Addr × Str)) (F : Fr) (W : WX) (mg : List D → En → Sto → RS) (es : List Expr) : Prop := PGs X es (LiftGs (gX X T) F W mg)
theorem PG.imp {X : Cx} {e : Expr} {t t' : TG} (h : PG X e t) (i : ∀ v σ H Q, t' v σ H Q → t v σ H Q) : PG X e t' := ⟨fun pins s σ H v u Q I r q => h.run pins s σ H v u Q I r (i v σ H Q q)⟩
theorem PGs.imp {X : Cx} {e : List Expr} {t t' : TGs} (h : PGs X e t) (i : ∀ v σ H Q, t' v σ H Q → t v σ H Q) : PGs X e t' := ⟨fun pins s σ H v u Q I r q => h.run pins s σ H v u Q I r (i v σ H Q q)⟩
theorem PG.or {X : Cx} {e : Expr} {t t' : TG} (h : PG X e t) (h' : PG X e t') : PG X e (fun v σ H Q => t v σ H Q ∨ t' v σ H Q) := ⟨fun pins s σ H v u Q I r q => q.elim (h.run pins s σ H v u Q I r) (h'.run pins s σ H v u Q I r)⟩
def mgName (i : Nat) : MG := fun d e S => .nx (e.set i (.val d)) S
def mgNil : List D → En → Sto → RS := fun ds e S => match ds with
  | [] => .nx e S
  | _ => .stuck
def mgCons (mg : MG) (mr : List D → En → Sto → RS) : List D → En → Sto → RS := fun ds e S => match ds with
  | [] => .stuck
  | d :: ds => match mg d e S with
    | .nx e1 S1 => mr ds e1 S1
    | .exn c p e1 S1 => .exn c p e1 S1
    | _ => .stuck
def mgTup (n : Nat) (mr : List D → En → Sto → RS) : MG := fun d e S => match d with
  | .tup ds => if ds.length = n then mr ds e S else .stuck
  | _ => .stuck
def mAsg (m : M D) (mg : MG) : MS := fun e S => (m e S).bndS e fun d S1 => match mg d e S1 with
  | .nx e1 S2 => .nx e1 S2
  | .exn c p e1 S2 => .exn c p e1 S2
  | _ => .stuck
section
variable {X : Cx} {T : List (Addr × Str)} {F : Fr} {W : WX} {e a b o i : Expr} {es : List Expr} {pos : Pos} {ma mb mo mi : M D} {mg : MG} {mr : List D → En → Sto → RS}
theorem sg_name (i : Nat) {x : Str} (hN : X.N.Nodup) (hi : X.N[i]? = some x) (hx : Loc X.env.scope x) (hf : X.fn x = true ∨ X.env.scope.names.lookup x = some .local := by first | exact .inl rfl | exact .inr rfl | assumption) : SG X T F W (mgName i) (.Name x pos) :=
  PG.imp (pg_name hN hi hx hf) fun v σ H Q ⟨φ, ow, S, env, d, R, r, q⟩ => q φ (ow.off i) _ H (R.setVal (r.st off_stp (List.prefix_refl _))) off_stp (List.prefix_refl _)
theorem sgs_nil : SGs X T F W mgNil [] := PGs.imp pgs_nil fun vs σ H Q ⟨φ, ow, S, env, ds, R, r, q⟩ => by
  cases r with
  | nil => exact ⟨rfl, PostS.nx q R⟩
  | cons _ _ => exact q.elim
theorem sgs_cons (h1 : SG X T F W mg a) (h2 : SGs X T F W mr es) (hs : (assignEach (a :: es) X.env).map (·.2) = assign a X.env :: (assignEach es X.env).map (·.2) := by rfl) : SGs X T F W (mgCons mg mr) (a :: es) :=
  PGs.imp (pgs_cons h1 h2 hs) fun vs σ H Q ⟨φ, ow, S, env, ds, R, r, q⟩ => by
    cases r with
    | nil => exact q.elim
    | @cons v vs d ds r1 r2 =>
      refine ⟨v, vs, rfl, φ, ow, S, env, d, R, r1, ?_⟩
      have q : PostS (gX X T) F W φ ow H (match mg d env S with
        | .nx e1 S1 => mr ds e1 S1
        | .exn c p e1 S1 => .exn c p e1 S1
        | _ => .stuck) { nx := Q, rt := fun _ _ => False } := q
      cases em : mg d env S with
      | nx e1 S1 =>
        rw [em] at q
        exact fun φ' ow' σ' H' R' s' p' => ⟨φ', ow', S1, e1, ds, R', r2.st s' p', PostS.go q s' p'⟩
      | exn c p e1 S1 => rw [em] at q; exact q
      | bk _ _ => rw [em] at q; exact q.elim
      | ct _ _ => rw [em] at q; exact q.elim
      | rt _ _ => rw [em] at q; exact q.elim
      | stuck => rw [em] at q; exact q.elim
theorem sg_tup {k n : Nat} (hc : X.calm = true) (h : SGs X T F W mr es) (hn : (assignEach es X.env).length = n := by rfl) (hst : (assignEach es X.env).findIdx? (·.1) = none := by rfl) : SG X T F W (mgTup n mr) (.Tuple es k pos) :=
  PG.imp (pg_tup hc h hn hst) fun v σ H Q ⟨φ, ow, S, env, d, R, r, q⟩ => by
    cases d with
    | tup ds =>
      have q : PostS (gX X T) F W φ ow H (if ds.length = n then mr ds env S else .stuck) { nx := Q, rt := fun _ _ => False } := q
      split at q
      · rename_i hl
        obtain ⟨x, vs, rfl, k, rl⟩ := r.ofTup
        exact ⟨x, vs, rfl, k, by rw [rl.length]; exact hl, φ, ow, S, env, ds, R, rl, q⟩
      · exact q.elim
    | _ => exact q.elim
/-- a value goes into a place of a name's own list -/
def mgSubOwn (k : Nat) (mi : M D) : MG := fun d e S => match e[k]? with
  | some (.own ds) => (mi e S).bndS e fun ix S1 => match ix with
    | .int i => (match ixN ds.length i with
      | some j => .nx (e.set k (.own (ds.set j d))) S1
      | none => .stuck)
    | _ => .stuck
  | _ => .stuck
theorem own_inj {G : Gd} {φ : List Addr} {ow : Ow} {S : Sto} {env : En} {σ : L2.St} {H : Hp} {k : Nat} {ds : List D} {v : V} (R : Rel G F φ ow S env σ H) (e : env[k]? = some (.own ds)) (h : σ[k]? = some (some v)) : ∃ a vs, v = .ref a ∧ ow.sl[k]? = some (some a) ∧ H a = some (.lst vs) ∧ RepL G φ (mutA F φ ow) H vs ds := by
  obtain ⟨a, vs, h1, h2, h3, h4⟩ := R.own k ds e
  rw [h] at h2
  exact ⟨a, vs, Option.some.inj (Option.some.inj h2), h1, h3, h4⟩
theorem sg_subOwn (k : Nat) {x : Str} {p : Pos} (hN : X.N[k]? = some x) (hv : Vis X.env.scope x) (hi : SB X T F W mi i) (hd : (x == ("__debug__" : Str)) = false := by decide) (hcd : (x == ("__classdict__" : Str)) = false := by decide)
    (ha : ∀ v, assign (.Subscript (.Name x p) i pos) X.env v = (do
      let ov ← holding [v] (eval (.Name x p) X.env)
      let iv ← holding [v, ov] (eval i X.env)
      standAt pos
      holding [v, ov, iv] (setItem ov iv v)
      release [v, ov, iv] []) := by intro _; rfl) : SG X T F W (mgSubOwn k mi) (.Subscript (.Name x p) i pos) :=
  PG.imp (pg_sub (pe_var (i := k) hN hv hd hcd) hi set_list ha) fun v σ H Q ⟨φ, ow, S, env, d, R, r, q⟩ => by
    unfold mgSubOwn at q
    split at q
    · rename_i ds ek
      obtain ⟨a, vs, h1, h2, h3, h4⟩ := R.own k ds ek
      refine ⟨.ref a, h2, lift_bS R q fun ix S1 φ1 H1 w R1 s1 p1 r1 q1 => ?_⟩
      cases ix with
      | int j =>
        have q1 : PostS (gX X T) F W φ1 ow H1 (match ixN ds.length j with
          | some j => .nx (env.set k (.own (ds.set j d))) S1
          | none => .stuck) { nx := Q, rt := fun _ _ => False } := q1
        cases hj : ixN ds.length j with
        | none => rw [hj] at q1; exact q1.elim
        | some j' =>
          rw [hj] at q1
          obtain ⟨b, ws, k1, k2, k3, k4⟩ := R1.own k ds ek
          rw [h1] at k1
          cases k1
          obtain ⟨R2, s2⟩ := R1.setOwn ek h1 k3 (k4.set (r.st s1 p1) j')
          exact ⟨a, ws, j, j', rfl, (r1.h R1).int, k3, by rw [k4.length]; exact hj, q1 φ1 ow σ _ R2 s2 (List.prefix_refl _)⟩
      | _ => exact q1.elim
    · exact q.elim
/-- .. of a cell's list -/
def mgSubRef (mo mi : M D) : MG := fun d e S => (mo e S).bndS e fun o S1 => (mi e S1).bndS e fun ix S2 => match o, ix with
  | .ref n, .int i => (match S2[n]? with
    | some (.lst ds) => (match ixN ds.length i with
      | some j => .nx e (S2.set n (.lst (ds.set j d)))
      | none => .stuck)
    | _ => .stuck)
  | _, _ => .stuck
theorem sg_subRef (ho : SE X T F W mo o) (hi : SB X T F W mi i)
    (ha : ∀ v, assign (.Subscript o i pos) X.env v = (do
      let ov ← holding [v] (eval o X.env)
      let iv ← holding [v, ov] (eval i X.env)
      standAt pos
      holding [v, ov, iv] (setItem ov iv v)
      release [v, ov, iv] []) := by intro _; rfl) : SG X T F W (mgSubRef mo mi) (.Subscript o i pos) :=
  PG.imp (pg_sub ho hi set_list ha) fun v σ H Q ⟨φ, ow, S, env, d, R, r, q⟩ => by
    unfold mgSubRef at q
    refine lift_bS R q fun od S1 φ1 H1 w R1 s1 p1 r1 q1 => lift_bS R1 q1 fun ix S2 φ2 H2 w2 R2 s2 p2 r2 q2 => ?_
    split at q2
    · rename_i n j
      split at q2
      · rename_i ds hc
        split at q2
        · rename_i j' hj
          cases r1 with
          | ref hr =>
          obtain ⟨a, ws, k1, k2, k3, _⟩ := R2.setCell hc (ws := []) (es := []) .nil
          rw [pre_at p2 hr] at k1
          cases k1
          obtain ⟨b, ws', k1', k2', k3', R3, s3⟩ := R2.setCell hc (k3.set ((r.st s1 p1).st s2 p2) j')
          rw [pre_at p2 hr] at k1'
          cases k1'
          exact ⟨_, ws, j, j', rfl, (r2.h R2).int, k2, by rw [k3.length]; exact hj, q2 φ2 ow σ _ R3 s3 (List.prefix_refl _)⟩
        · exact q2.elim
      · exact q2.elim
    · exact q2.elim
theorem ss_asg {tg : Expr} (he : SE X T F W ma e) (hg : SG X T F W mg tg) (hs : swapsWithSole [tg] e pos.line X.env = pure false := by rfl) (hw : swappedStores [tg] e X.env = pure none := by rfl)
    (h1 : (assignEach [tg] X.env).map (·.2) = [assign tg X.env] := by rfl) : SS X T F W (mAsg ma mg) (.Assign [tg] e pos) :=
  PS.imp (ps_asg he hg hs hw h1) fun D σ H ⟨φ, ow, S, env, R, q⟩ => lift_bS R q fun d S1 φ1 H1 v R1 s1 p1 r1 q1 => by
    refine ⟨φ1, ow, S1, env, d, R1, r1, ?_⟩
    cases em : mg d env S1 with
    | nx e1 S2 => rw [em] at q1; exact fun φ' ow' σ' H' R' s' p' => q1 φ' ow' σ' H' R' s' p'
    | exn c p e1 S2 => rw [em] at q1; exact q1
    | bk _ _ => rw [em] at q1; exact q1.elim
    | ct _ _ => rw [em] at q1; exact q1.elim
    | rt _ _ => rw [em] at q1; exact q1.elim
    | stuck => rw [em] at q1; exact q1.elim
/-- xs.append(e), xs a name's own -/
def mAppOwn (k : Nat) (m : M D) : MS := fun e S => match e[k]? with
  | some (.own ds) => (m e S).bndS e fun d S1 => if ds.length < 100000 then .nx (e.set k (.own (ds ++ [d]))) S1 else .stuck
  | _ => .stuck
theorem sz5' {n : Nat} (h : n < 100000) : n < sizeLine := Nat.lt_of_lt_of_le h (by decide)
theorem ss_appOwn (k : Nat) {x : Str} {p apos cpos : Pos} (he : SE X T F W ma e) (hN : X.N[k]? = some x := by rfl) (hv : Vis X.env.scope x := by first | exact Or.inl rfl | exact Or.inr (Or.inl rfl) | exact Or.inr (Or.inr rfl)) (hd : (x == ("__debug__" : Str)) = false := by decide) (hcd : (x == ("__classdict__" : Str)) = false := by decide)
    (hbase : attributeBase (.Name x p) "append" X.env (eval (.Name x p) X.env) = eval (.Name x p) X.env := by rfl)
    (hfew : ((backTo cpos (starEach [e] X.env)).all (fun x => !x.1) && (backToKw cpos (keywordEach [] X.env)).all (fun x => x.1.isSome)
      && decide ([e].length + ([] : List Keyword).length + (if ([] : List Keyword).isEmpty then 0 else 1) < 30)) = true := by rfl)
    (hline : (apos.endLine == cpos.line) = true := by rfl) (hs : starEach [e] X.env = (false, eval e X.env) :: starEach [] X.env := by rfl)
    (hsw : swapsWith (.Call (.Attribute (.Name x p) "append" apos) [e] [] cpos) none pos.line X.env = pure false := by rfl) :
    SS X T F W (mAppOwn k ma) (.Expr (.Call (.Attribute (.Name x p) "append" apos) [e] [] cpos) pos) :=
  PS.imp (ps_expr (pe_bm PySem.F.plainAttrs_list PySem.F.slot_list_append PySem.F.type_list_append mt_append (pe_var (i := k) hN hv hd hcd) (pa_cons he pa_nil hs) hbase hfew hline hs) hsw) fun D σ H ⟨φ, ow, S, env, R, q⟩ => by
    unfold mAppOwn at q
    split at q
    · rename_i ds ek
      obtain ⟨a, vs, h1, h2, h3, h4⟩ := R.own k ds ek
      refine ⟨.ref a, h2, Or.inl ⟨rfl, _, Or.inl (Or.inl h3)⟩, lift_bS R q fun d S1 φ1 H1 w R1 s1 p1 r1 q1 => ?_⟩
      split at q1
      · rename_i hz
        obtain ⟨b, ws, k1, k2, k3, k4⟩ := R1.own k ds ek
        rw [h1] at k1
        cases k1
        obtain ⟨R2, s2⟩ := R1.setOwn ek h1 k3 (k4.app (.cons r1 .nil))
        exact ⟨a, ws, w, rfl, rfl, k3, by rw [k4.length]; exact sz5' hz, q1 φ1 ow σ _ R2 s2 (List.prefix_refl _)⟩
      · exact q1.elim
    · exact q.elim
/-- .. a cell's list -/
def mAppRef (mo m : M D) : MS := fun e S => (mo e S).bndS e fun o S1 => (m e S1).bndS e fun d S2 => match o with
  | .ref n => (match S2[n]? with
    | some (.lst ds) => if ds.length < 100000 then .nx e (S2.set n (.lst (ds ++ [d]))) else .stuck
    | _ => .stuck)
  | _ => .stuck
/-- xs.pop(), xs a name's own, its value dropped -/
def mPopOwn (k : Nat) : MS := fun e S => match e[k]? with
  | some (.own ds) => if ds.length = 0 then .stuck else .nx (e.set k (.own ds.dropLast)) S
  | _ => .stuck
theorem RepL.dropLast {G : Gd} {φ : List Addr} {U : Addr → Prop} {H : Hp} {vs : List V} {ds : List D} (h : RepL G φ U H vs ds) : RepL G φ U H vs.dropLast ds.dropLast := by
  rw [List.dropLast_eq_take, List.dropLast_eq_take, h.length]
  exact h.take _
theorem ss_popOwn (k : Nat) {x : Str} {p apos cpos : Pos} (hN : X.N[k]? = some x := by rfl) (hv : Vis X.env.scope x := by first | exact Or.inl rfl | exact Or.inr (Or.inl rfl) | exact Or.inr (Or.inr rfl)) (hd : (x == ("__debug__" : Str)) = false := by decide) (hcd : (x == ("__classdict__" : Str)) = false := by decide)
    (hbase : attributeBase (.Name x p) "pop" X.env (eval (.Name x p) X.env) = eval (.Name x p) X.env := by rfl)
    (hline : (apos.endLine == cpos.line) = true := by rfl) (hsw : swapsWith (.Call (.Attribute (.Name x p) "pop" apos) [] [] cpos) none pos.line X.env = pure false := by rfl) :
    SS X T F W (mPopOwn k) (.Expr (.Call (.Attribute (.Name x p) "pop" apos) [] [] cpos) pos) :=
  PS.imp (ps_expr (pe_bm0 PySem.F.plainAttrs_list PySem.F.slot_list_pop PySem.F.type_list_pop mt_pop (pe_var (i := k) hN hv hd hcd) hbase hline) hsw) fun D σ H ⟨φ, ow, S, env, R, q⟩ => by
    unfold mPopOwn at q
    split at q
    · rename_i ds ek
      obtain ⟨a, vs, h1, h2, h3, h4⟩ := R.own k ds ek
      split at q
      · exact q.elim
      · rename_i hz
        have hl := h4.length
        obtain ⟨R2, s2⟩ := R.setOwn ek h1 h3 h4.dropLast
        have hlt : vs.length - 1 < vs.length := by omega
        exact ⟨.ref a, h2, Or.inl ⟨rfl, _, Or.inl (Or.inl h3)⟩, a, vs, vs[vs.length - 1], rfl, rfl, h3, List.getElem?_eq_getElem hlt, q φ ow σ _ R2 s2 (List.prefix_refl _)⟩
    · exact q.elim
end
end DL
set_option Elab.async false
set_option linter.all false
set_option maxRecDepth 100000
/-! DL7: loops and comprehensions by data -/
namespace DL
open PySem PySem.Spec PyProof.Rows L2

/-- what is walked yields these, as long as what stood fast stands -/
def ItOk (G : Gd) (φ : List Addr) (U : Addr → Prop) (H : Hp) (J : It) (ds : List D) : Prop := ∀ (φ1 : List Addr) (U1 : Addr → Prop) (H1 : Hp), Stp U H U1 H1 → φ <+: φ1 → (∀ a, U1 a → H1 a ≠ none) →
  ∀ i, (i < ds.length → J.go i H1) ∧ (i = ds.length → J.stop i H1) ∧ ∀ x H2, i < ds.length → J.yld i H1 x H2 → Same H1 H2 ∧ ∃ d, ds[i]? = some d ∧ Rep G φ1 U1 H2 x d
def PostI (G : Gd) (F : Fr) (W : WX) (φ : List Addr) (ow : Ow) (env : En) (σ : L2.St) (H : Hp) : Res (List D) → (It → Hp → Prop) → Prop
  | .ok ds S', R => ∀ φ' H' J, Rel G F φ' ow S' env σ H' → Stp (mutA F φ ow) H (mutA F φ' ow) H' → φ <+: φ' → ItOk G φ' (mutA F φ' ow) H' J ds → R J H'
  | .exn c p S', _ => ∀ φ' H' cls dd, Rel G F φ' ow S' env σ H' → Stp (mutA F φ ow) H (mutA F φ' ow) H' → φ <+: φ' → XRep G φ' (mutA F φ' ow) H' c p cls dd → W cls dd σ H'
  | .stuck, _ => False
def LiftI (G : Gd) (F : Fr) (W : WX) (m : M (List D)) : TI := fun σ H R => ∃ φ ow S env, Rel G F φ ow S env σ H ∧ PostI G F W φ ow env σ H (m env S) R
def SI (X : Cx) (T : List (Addr × Str)) (F : Fr) (W : WX) (m : M (List D)) (tg e : Expr) : Prop := PI X tg e (LiftI (gX X T) F W m)
theorem PI.imp {X : Cx} {tg e : Expr} {t t' : TI} (h : PI X tg e t) (i : ∀ σ H R, t' σ H R → t σ H R) : PI X tg e t' := ⟨fun pins s σ H R I q => h.run pins s σ H R I (i σ H R q)⟩
section
variable {X : Cx} {T : List (Addr × Str)} {F : Fr} {W : WX} {e a b : Expr} {es : List Expr} {pos : Pos} {ma mb : M D} {ml : M (List D)} {G : Gd} {φ φ1 : List Addr} {ow : Ow} {S : Sto} {env : En} {σ : L2.St} {H H1 : Hp} {tg : Expr}
theorem PostI.go {r : Res (List D)} {Q : It → Hp → Prop} (h : PostI G F W φ ow env σ H r Q) (s : Stp (mutA F φ ow) H (mutA F φ1 ow) H1) (p : φ <+: φ1) : PostI G F W φ1 ow env σ H1 r Q := by
  cases r with
  | ok a S' => exact fun φ' H' v R' s' p' => h φ' H' v R' (s.trans s') (p.trans p')
  | exn c q S' => exact fun φ' H' cls dd R' s' p' x => h φ' H' cls dd R' (s.trans s') (p.trans p') x
  | stuck => exact h
theorem lift_bI {α β : Type} {rp : RP α β} {m : M α} {k : α → Sto → Res (List D)} {Q : It → Hp → Prop} {Q1 : β → Hp → Prop} (R : Rel G F φ ow S env σ H) (h : PostI G F W φ ow env σ H ((m env S).bnd k) Q)
    (hk : ∀ a S1 φ1 H1 v, Rel G F φ1 ow S1 env σ H1 → Stp (mutA F φ ow) H (mutA F φ1 ow) H1 → φ <+: φ1 → rp env ow φ1 (mutA F φ1 ow) H1 v a → PostI G F W φ1 ow env σ H1 (k a S1) Q → Q1 v H1) : LiftR G F W rp m σ H Q1 := by
  refine ⟨φ, ow, S, env, R, ?_⟩
  cases e : m env S with
  | ok a S1 =>
    rw [e] at h
    have h' : PostI G F W φ ow env σ H (k a S1) Q := h
    exact fun φ1 H1 v R1 s1 p1 r1 => hk a S1 φ1 H1 v R1 s1 p1 r1 (h'.go s1 p1)
  | exn c q S1 =>
    rw [e] at h
    exact h
  | stuck =>
    rw [e] at h
    exact h
theorem PostI.here {ds : List D} {Q : It → Hp → Prop} {J : It} (h : PostI G F W φ ow env σ H (.ok ds S) Q) (R : Rel G F φ ow S env σ H) (r : ItOk G φ (mutA F φ ow) H J ds) : Q J H := h φ H J R Stp.refl (List.prefix_refl _) r
/-! what is walked -/
theorem RepL.at? {vs : List V} {ds : List D} {U : Addr → Prop} {i : Nat} {x : V} (r : RepL G φ U H vs ds) (h : vs[i]? = some x) : ∃ d, ds[i]? = some d ∧ Rep G φ U H x d := by
  obtain ⟨hl, _⟩ := List.getElem?_eq_some_iff.mp h
  have hd : i < ds.length := by rw [← r.length]; exact hl
  obtain ⟨v, e, q⟩ := r.get (List.getElem?_eq_getElem hd)
  rw [h] at e
  cases e
  exact ⟨_, List.getElem?_eq_getElem hd, q⟩
theorem it_tup {x : Addr} {ds : List D} {U : Addr → Prop} (r : Rep G φ U H (.ref x) (.tup ds)) : ItOk G φ U H (Itt G.K x) ds := fun φ1 U1 H1 st pf hU i => by
  obtain ⟨vs, k, rl⟩ := (r.st st pf).sqT
  refine ⟨fun hi => ?_, fun hi => ⟨vs, k, by rw [rl.length, hi]; exact Nat.le_refl _⟩, fun y H2 hi ⟨e, q⟩ => ?_⟩
  · obtain ⟨v, e, _⟩ := rl.get (List.getElem?_eq_getElem hi)
    exact ⟨vs, v, k, e⟩
  · subst e
    exact ⟨Same.refl _, rl.at? (q vs k)⟩
theorem it_lst {x : Addr} {ds : List D} {U : Addr → Prop} (r : Rep G φ U H (.ref x) (.lst ds)) : ItOk G φ U H (Itl G.K x) ds := fun φ1 U1 H1 st pf hU i => by
  obtain ⟨a, vs, e0, k, _, rl⟩ := (r.st st pf).ofLst
  cases e0
  have k : SqL G.K H1 x vs := .inl (.inl k)
  refine ⟨fun hi => ?_, fun hi => ⟨vs, k, by rw [rl.length, hi]; exact Nat.le_refl _⟩, fun y H2 hi ⟨e, q⟩ => ?_⟩
  · obtain ⟨v, e, _⟩ := rl.get (List.getElem?_eq_getElem hi)
    exact ⟨vs, v, k, e⟩
  · subst e
    exact ⟨Same.refl _, rl.at? (q vs k)⟩
theorem it_range {lo : Int} {n : Nat} {U : Addr → Prop} : ItOk G φ U H (Itr lo n) ((List.range n).map fun k => D.int (lo + (k : Nat))) := fun φ1 U1 H1 st pf hU i => by
  simp only [List.length_map, List.length_range]
  refine ⟨fun hi => hi, fun hi => Nat.le_of_eq hi.symm, fun y H2 hi ⟨e, q⟩ => ?_⟩
  subst e q
  exact ⟨Same.refl _, .int (lo + (i : Nat)), by simp [hi], .int _⟩
def itemsL : D → Option (List D)
  | .tup ds => some ds
  | .lst ds => some ds
  | _ => none
/-- over a tuple, a list that stands still -/
def iTL (K : PySem.W.Frag) (te : TE) : TI := fun σ H R => te σ H fun x H1 => ∃ a, x = .ref a ∧ (((∃ xs, SqL K H1 a xs) ∧ R (Itl K a) H1) ∨ ((∃ xs, SqT K H1 a xs) ∧ R (Itt K a) H1))
theorem pi_tl {l : Expr} {tl : TE} (hl : PE X l tl) : PI X tg l (iTL X.K tl) := by
  refine ⟨fun pins s σ H R I h => ?_⟩
  refine thn (hl.run pins s σ H _ I h) fun v s1 ⟨x, H1, I1, r1, q1⟩ => ?_
  obtain ⟨a, e, q1⟩ := q1
  subst e
  cases r1
  rcases q1 with ⟨⟨xs, hq⟩, q⟩ | ⟨⟨xs, hq⟩, q⟩
  · obtain ⟨its, rv, p, hz⟩ := I1.list hq
    refine wpAny_pyIter_list p.isList ?_
    refine ⟨s1.heap.objs.size, [s1.heap.objs.size], _, _, H1, rfl, I1.kept (t' := s1.toks) fun b o e => Heap.get?_push_of_some _ e, turn_list a _, ⟨_, Heap.get?_push_size _ rfl, rfl, rfl⟩, fun b hb => ?_, q⟩
    have e : b = s1.heap.objs.size := by simpa using hb
    subst e
    exact I1.fpOk (Nat.le_refl _) (I1.hok.fresh (Nat.le_refl _))
  · obtain ⟨its, rv, p, hz⟩ := I1.tuple hq
    refine wpAny_pyIter_tuple (show s1.heap.IsTuple a its.toArray from p) ?_
    refine ⟨s1.heap.objs.size, [s1.heap.objs.size], _, _, H1, rfl, I1.kept (t' := s1.toks) fun b o e => Heap.get?_push_of_some _ e, turn_tuple a _, ⟨_, Heap.get?_push_size _ rfl, rfl, rfl⟩, fun b hb => ?_, q⟩
    have e : b = s1.heap.objs.size := by simpa using hb
    subst e
    exact I1.fpOk (Nat.le_refl _) (I1.hok.fresh (Nat.le_refl _))
theorem si_val (h : SE X T F W ma e) : SI X T F W (fun e S => (ma e S).bnd fun d S1 => oR (itemsL d) S1) tg e := PI.imp (pi_tl h) fun σ H R ⟨φ, ow, S, env, Rl, q⟩ => lift_bI Rl q fun d S1 φ1 H1 v R1 s1 p1 r1 q1 => by
  cases d with
  | tup ds =>
    obtain ⟨x, vs, rfl, k, rl⟩ := Rep.ofTup r1
    exact ⟨x, rfl, .inr ⟨⟨vs, k⟩, PostI.here q1 R1 (it_tup r1)⟩⟩
  | lst ds =>
    obtain ⟨x, vs, rfl, k, _, rl⟩ := Rep.ofLst r1
    exact ⟨x, rfl, .inl ⟨⟨vs, .inl (.inl k)⟩, PostI.here q1 R1 (it_lst r1)⟩⟩
  | _ => exact q1.elim
def rng1 (S : Sto) : List D → Option (List D)
  | [.int j] => if -1000000 ≤ j ∧ j ≤ 1000000 then some ((List.range j.toNat).map fun k => D.int (0 + (k : Nat))) else none
  | _ => none
def rng2 (S : Sto) : List D → Option (List D)
  | [.int i, .int j] => if -1000000 ≤ i ∧ i ≤ 1000000 ∧ -1000000 ≤ j ∧ j ≤ 1000000 then some ((List.range (j - i).toNat).map fun k => D.int (i + (k : Nat))) else none
  | _ => none
theorem si_range1 {p : Pos} (hg : Gl X "range") (hm : X.mg "range" = none) (ha : SAB X T F W ml [a]) (hs : starEach [a] X.env = [(false, eval a X.env)] := by rfl) : SI X T F W (fun e S => (ml e S).bnd fun ds S1 => oR (rng1 S1 ds) S1) tg (.Call (.Name "range" p) [a] [] pos) :=
  PI.imp (pi_range1 hg hm ha hs) fun σ H R ⟨φ, ow, S, env, Rl, q⟩ => lift_bI Rl q fun ds S1 φ1 H1 vs R1 s1 p1 r1 q1 => by
    unfold rng1 at q1
    split at q1
    · rename_i j
      split at q1
      · obtain ⟨v, rfl, r⟩ := paired1 (rpBL.h R1 r1)
        exact ⟨j, by rw [r.int], by omega, by omega, PostI.here q1 R1 it_range⟩
      · exact q1.elim
    · exact q1.elim
theorem si_range2 {p : Pos} (hg : Gl X "range") (hm : X.mg "range" = none) (ha : SAB X T F W ml [a, b]) (hs : starEach [a, b] X.env = [(false, eval a X.env), (false, eval b X.env)] := by rfl) (hs2 : starEach [b] X.env = [(false, eval b X.env)] := by rfl) : SI X T F W (fun e S => (ml e S).bnd fun ds S1 => oR (rng2 S1 ds) S1) tg (.Call (.Name "range" p) [a, b] [] pos) :=
  PI.imp (pi_range2 hg hm ha hs hs2) fun σ H R ⟨φ, ow, S, env, Rl, q⟩ => lift_bI Rl q fun ds S1 φ1 H1 vs R1 s1 p1 r1 q1 => by
    unfold rng2 at q1
    split at q1
    · rename_i i j
      split at q1
      · obtain ⟨v, w, rfl, r, r'⟩ := paired2 (rpBL.h R1 r1)
        exact ⟨i, j, by rw [r.int, r'.int], by omega, PostI.here q1 R1 it_range⟩
      · exact q1.elim
    · exact q1.elim
end

/-! ### for -/
def loopS (body : D → MS) : List D → MS
  | [], e, S => .nx e S
  | d :: ds, e, S => match body d e S with
    | .nx e1 S1 => loopS body ds e1 S1
    | .ct e1 S1 => loopS body ds e1 S1
    | .bk e1 S1 => .nx e1 S1
    | r => r
def mBody (mg : MG) (mb : MS) : D → MS := fun d e S => match mg d e S with
  | .nx e1 S1 => mb e1 S1
  | .exn c p e1 S1 => .exn c p e1 S1
  | _ => .stuck
def mFor (mi : M (List D)) (mg : MG) (mb : MS) : MS := fun e S => (mi e S).bndS e fun ds S1 => loopS (mBody mg mb) ds e S1
section
variable {X : Cx} {T : List (Addr × Str)} {F : Fr} {W : WX} {tg iter : Expr} {body : List Stmt} {pos : Pos} {mi : M (List D)} {mg : MG} {mb : MS} {G : Gd}
theorem lift_for {tb : TS} (hb : ∀ D σ H, LiftS G F W mb D σ H → tb D σ H) (D : Ends) (σ : L2.St) (H : Hp) (h : LiftS G F W (mFor mi mg mb) D σ H) : tFor (LiftI G F W mi) (LiftG G F W mg) tb D σ H := by
  obtain ⟨φ, ow, S, env, R, q⟩ := h
  refine ⟨φ, ow, S, env, R, ?_⟩
  unfold mFor at q
  cases em : mi env S with
  | stuck => rw [em] at q; exact q.elim
  | exn c p S1 =>
    rw [em] at q
    have q : PostS G F W φ ow H (.exn c p env S1) D := q
    exact fun φ' H' cls dd R' s' p' x => q φ' ow σ H' cls dd R' s' p' x
  | ok ds S1 =>
    rw [em] at q
    have q : PostS G F W φ ow H (loopS (mBody mg mb) ds env S1) D := q
    intro φ1 H1 J R1 s1 p1 it
    refine ⟨fun i m σ' H' => m = ds.length - i ∧ i ≤ ds.length ∧ ∃ φ' ow' S' env', Rel G F φ' ow' S' env' σ' H' ∧ Stp (mutA F φ1 ow) H1 (mutA F φ' ow') H' ∧ φ1 <+: φ' ∧ PostS G F W φ' ow' H' (loopS (mBody mg mb) (ds.drop i) env' S') D,
      ⟨ds.length, by simp, Nat.zero_le _, φ1, ow, S1, env, R1, Stp.refl, List.prefix_refl _, by rw [List.drop_zero]; exact q.go s1 p1⟩, ?_⟩
    rintro i m σ' H' ⟨rfl, hi, φ2, ow2, S2, env2, R2, s2, p2, q2⟩
    obtain ⟨g1, g2, g3⟩ := it φ2 _ H' s2 p2 (fun a => R2.mutT) i
    by_cases hlt : i < ds.length
    · refine .inr ⟨g1 hlt, fun σ3 H3 => ∃ φ' ow' S' env', Rel G F φ' ow' S' env' σ3 H3 ∧ Stp (mutA F φ1 ow) H1 (mutA F φ' ow') H3 ∧ φ1 <+: φ' ∧ PostS G F W φ' ow' H3 (loopS (mBody mg mb) (ds.drop (i + 1)) env' S') D,
        fun σ3 H3 n3 => ⟨ds.length - (i + 1), by omega, rfl, hlt, n3⟩, fun x H2 y => ?_⟩
      obtain ⟨sm, d, hd, rd⟩ := g3 x H2 hlt y
      have R3 := R2.same sm
      have hdr : ds.drop i = d :: ds.drop (i + 1) := by
        rw [List.drop_eq_getElem_cons hlt]
        rw [List.getElem?_eq_getElem hlt] at hd
        rw [Option.some.inj hd]
      rw [hdr] at q2
      have q3 : PostS G F W φ2 ow2 H2 (loopS (mBody mg mb) (d :: ds.drop (i + 1)) env2 S2) D := q2.go (stp_same sm) (List.prefix_refl _)
      have s3 : Stp (mutA F φ1 ow) H1 (mutA F φ2 ow2) H2 := s2.trans (stp_same sm)
      refine ⟨φ2, ow2, S2, env2, d, R3, rd, ?_⟩
      have q3 : PostS G F W φ2 ow2 H2 (match mBody mg mb d env2 S2 with
        | .nx e1 S1 => loopS (mBody mg mb) (ds.drop (i + 1)) e1 S1
        | .ct e1 S1 => loopS (mBody mg mb) (ds.drop (i + 1)) e1 S1
        | .bk e1 S1 => .nx e1 S1
        | r => r) D := q3
      cases eg : mg d env2 S2 with
      | nx e1 S3 =>
        rw [show mBody mg mb d env2 S2 = mb e1 S3 from by unfold mBody; rw [eg]] at q3
        intro φ4 ow4 σ4 H4 R4 s4 p4
        refine hb _ _ _ ⟨φ4, ow4, S3, e1, R4, ?_⟩
        have s4' := s3.trans s4
        have p4' := p2.trans p4
        cases eb : mb e1 S3 with
        | nx e2 S4 =>
          rw [eb] at q3
          exact fun φ5 ow5 σ5 H5 R5 s5 p5 => ⟨φ5, ow5, S4, e2, R5, s4'.trans s5, p4'.trans p5, PostS.go q3 (s4.trans s5) (p4.trans p5)⟩
        | ct e2 S4 =>
          rw [eb] at q3
          exact fun φ5 ow5 σ5 H5 R5 s5 p5 => ⟨φ5, ow5, S4, e2, R5, s4'.trans s5, p4'.trans p5, PostS.go q3 (s4.trans s5) (p4.trans p5)⟩
        | bk e2 S4 =>
          rw [eb] at q3
          exact fun φ5 ow5 σ5 H5 R5 s5 p5 => q3 φ5 ow5 σ5 H5 R5 (s4.trans s5) (p4.trans p5)
        | rt d2 S4 => rw [eb] at q3; exact q3
        | exn c p e2 S4 => rw [eb] at q3; exact fun φ' ow' σ' H' cls dd R' s' p' x => q3 φ' ow' σ' H' cls dd R' (s4.trans s') (p4.trans p') x
        | stuck => rw [eb] at q3; exact q3.elim
      | exn c p e1 S3 => rw [show mBody mg mb d env2 S2 = .exn c p e1 S3 from by unfold mBody; rw [eg]] at q3; exact q3
      | bk _ _ => rw [show mBody mg mb d env2 S2 = .stuck from by unfold mBody; rw [eg]] at q3; exact q3.elim
      | ct _ _ => rw [show mBody mg mb d env2 S2 = .stuck from by unfold mBody; rw [eg]] at q3; exact q3.elim
      | rt _ _ => rw [show mBody mg mb d env2 S2 = .stuck from by unfold mBody; rw [eg]] at q3; exact q3.elim
      | stuck => rw [show mBody mg mb d env2 S2 = .stuck from by unfold mBody; rw [eg]] at q3; exact q3.elim
    · have ei : i = ds.length := by omega
      subst ei
      refine .inl ⟨g2 rfl, ?_⟩
      rw [List.drop_length] at q2
      exact PostS.nx q2 R2
theorem ss_for (hp : PassesOwn (model X.prog X.w) X.A X.env X.xe) (hc : X.calm = true) (hi : SI X T F W mi tg iter) (hg : SG X T F W mg tg) (hb : SSs X T F W mb body) (hs : ∀ x, foldedSetIterable iter X.env x = pure x := by intro _; rfl) :
    SS X T F W (mFor mi mg mb) (.For tg iter body [] pos) := PS.imp (ps_for hp hc hi hg hb hs) (lift_for fun _ _ _ z => z)
/-! ### while -/
def whileS (mc : M Bool) (mb : MS) : Nat → MS
  | 0, _, _ => .stuck
  | n + 1, e, S => (mc e S).bndS e fun b S1 => if b = true then (match mb e S1 with
    | .nx e1 S2 => whileS mc mb n e1 S2
    | .ct e1 S2 => whileS mc mb n e1 S2
    | .bk e1 S2 => .nx e1 S2
    | r => r) else .nx e S1
theorem ss_while (n : Nat) {c : Expr} {mc : M Bool} (hp : PassesOwn (model X.prog X.w) X.A X.env X.xe) (hc : ST X T F W mc c) (hb : SSs X T F W mb body) : SS X T F W (whileS mc mb n) (.While c body [] pos) :=
  PS.imp (ps_while hp hc hb) fun D σ H ⟨φ, ow, S, env, R, q⟩ => by
    refine ⟨fun m σ' H' => ∃ φ' ow' S' env', Rel (gX X T) F φ' ow' S' env' σ' H' ∧ PostS (gX X T) F W φ' ow' H' (whileS mc mb m env' S') D, ⟨n, φ, ow, S, env, R, q⟩, ?_⟩
    rintro m σ' H' ⟨φ1, ow1, S1, env1, R1, q1⟩
    cases m with
    | zero => exact q1.elim
    | succ m =>
      refine lift_bS R1 q1 fun k S2 φ2 H2 v R2 s2 p2 r2 q2 => ?_
      subst r2
      cases v with
      | false =>
        show D.nx σ' H2
        exact PostS.nx q2 R2
      | true =>
        refine ⟨fun σ3 H3 => ∃ φ' ow' S' env', Rel (gX X T) F φ' ow' S' env' σ3 H3 ∧ PostS (gX X T) F W φ' ow' H3 (whileS mc mb m env' S') D, fun σ3 H3 n3 => ⟨m, Nat.lt_succ_self _, n3⟩, φ2, ow1, S2, env1, R2, ?_⟩
        have q2 : PostS (gX X T) F W φ2 ow1 H2 (match mb env1 S2 with
          | .nx e1 S2 => whileS mc mb m e1 S2
          | .ct e1 S2 => whileS mc mb m e1 S2
          | .bk e1 S2 => .nx e1 S2
          | r => r) D := q2
        cases eb : mb env1 S2 with
        | nx e2 S4 =>
          rw [eb] at q2
          exact fun φ5 ow5 σ5 H5 R5 s5 p5 => ⟨φ5, ow5, S4, e2, R5, PostS.go q2 s5 p5⟩
        | ct e2 S4 =>
          rw [eb] at q2
          exact fun φ5 ow5 σ5 H5 R5 s5 p5 => ⟨φ5, ow5, S4, e2, R5, PostS.go q2 s5 p5⟩
        | bk e2 S4 => rw [eb] at q2; exact q2
        | rt d2 S4 => rw [eb] at q2; exact q2
        | exn c p e2 S4 => rw [eb] at q2; exact q2
        | stuck => rw [eb] at q2; exact q2.elim
end

/-! ### [e for x in xs if t] -/
def wipeE (e : En) : List Nat → En
  | [] => e
  | v :: vs => (wipeE e vs).set v .hid
def lcL (body : D → Sto → Res (Option D)) : List D → Sto → List D → Res (List D)
  | [], S, acc => .ok acc S
  | d :: ds, S, acc => (body d S).bnd fun o S1 => match o with
    | some x => if acc.length < 100000 then lcL body ds S1 (acc ++ [x]) else .stuck
    | none => lcL body ds S1 acc
def noX {α : Type} : Res α → Res α
  | .exn _ _ _ => .stuck
  | r => r
def lcBody (sl : List Nat) (mg : MG) (mt : M Bool) (me : M D) (env : En) : D → Sto → Res (Option D) := fun d S => match mg d (wipeE env sl) S with
  | .nx e1 S1 => (noX (mt e1 S1)).bnd fun b S2 => if b = true then (noX (me e1 S2)).bnd fun y S3 => .ok (some y) S3 else .ok none S2
  | _ => .stuck
def mLc (sl : List Nat) (mi : M (List D)) (mg : MG) (mt : M Bool) (me : M D) : M (List D) := fun e S => (mi e S).bnd fun ds S1 => lcL (lcBody sl mg mt me e) ds S1 []
abbrev WNo : WX := fun _ _ _ _ => False
section
variable {G : Gd} {F : Fr} {W : WX} {φ φ1 : List Addr} {ow : Ow} {S : Sto} {env : En} {σ : L2.St} {H H1 : Hp}
def Ow.wipe (ow : Ow) : List Nat → Ow
  | [] => ow
  | v :: vs => (ow.wipe vs).off v
theorem Ow.wipe_push {a : Addr} {ds : List D} : ∀ {sl : List Nat}, (ow.push a ds).wipe sl = (ow.wipe sl).push a ds
  | [] => rfl
  | v :: vs => by
    show ((ow.push a ds).wipe vs).off v = ((ow.wipe vs).off v).push a ds
    rw [Ow.wipe_push]
    rfl
theorem Rel.wipe (R : Rel G F φ ow S env σ H) : ∀ sl : List Nat, Rel G F φ (ow.wipe sl) S (wipeE env sl) (L2.wipe σ sl) H
  | [] => R
  | v :: vs => (Rel.wipe R vs).hide
theorem mut_wipe {a : Addr} : ∀ {sl : List Nat}, mutA F φ (ow.wipe sl) a → mutA F φ ow a
  | [], h => h
  | v :: vs, h => mut_wipe (sl := vs) (mut_off h)
end
end DL
set_option Elab.async false
set_option linter.all false
set_option maxRecDepth 100000
/-! DL8: comprehensions by data -/
namespace DL
open PySem PySem.Spec PyProof.Rows L2

def noOwn (e : En) (sl : List Nat) : Bool := sl.all fun v => match e[v]? with
  | some (.own _) => false
  | _ => true
def mLcN (sl : List Nat) (mi : M (List D)) (mg : MG) (mt : M Bool) (me : M D) : M (List D) := fun e S => if noOwn e sl = true then mLc sl mi mg mt me e S else .stuck
section
variable {G : Gd} {F : Fr} {W : WX} {φ φ1 φ' : List Addr} {ow : Ow} {S S' : Sto} {env : En} {σ σ2 : L2.St} {H H1 H' : Hp}
theorem wipe_get : ∀ (sl : List Nat) (σ : L2.St) (k : Nat), (L2.wipe σ sl)[k]? = if k ∈ sl then σ[k]?.map (fun _ => none) else σ[k]?
  | [], σ, k => by simp [L2.wipe]
  | v :: vs, σ, k => by
    show ((L2.wipe σ vs).set v none)[k]? = _
    rw [List.getElem?_set]
    by_cases e : v = k
    · subst e
      rw [if_pos rfl, if_pos List.mem_cons_self, L2.wipe_length]
      by_cases hl : v < σ.length
      · rw [if_pos hl, List.getElem?_eq_getElem hl]; rfl
      · rw [if_neg hl, List.getElem?_eq_none (by omega)]; rfl
    · rw [if_neg e, wipe_get vs]
      by_cases hm : k ∈ vs
      · rw [if_pos hm, if_pos (List.mem_cons_of_mem _ hm)]
      · rw [if_neg hm, if_neg (by rw [List.mem_cons]; rintro (z | z); exact e z.symm; exact hm z)]
theorem wipe_same {sl : List Nat} {σ σ2 : L2.St} (hl : σ2.length = σ.length) (h : ∀ k, k ∉ sl → σ2[k]? = σ[k]?) : L2.wipe σ2 sl = L2.wipe σ sl := by
  apply List.ext_getElem?
  intro k
  rw [wipe_get, wipe_get]
  by_cases hm : k ∈ sl
  · rw [if_pos hm, if_pos hm]
    by_cases hk : k < σ.length
    · rw [List.getElem?_eq_getElem hk, List.getElem?_eq_getElem (by rw [hl]; exact hk)]; rfl
    · rw [List.getElem?_eq_none (by omega), List.getElem?_eq_none (by omega)]
  · rw [if_neg hm, if_neg hm, h k hm]
theorem wipe_wipe {sl : List Nat} {σ : L2.St} : ∀ k, k ∉ sl → (L2.wipe σ sl)[k]? = σ[k]? := fun k hk => by rw [wipe_get, if_neg hk]
theorem wipeE_get : ∀ (sl : List Nat) (e : En) (k : Nat), k ∉ sl → (wipeE e sl)[k]? = e[k]?
  | [], _, _, _ => rfl
  | v :: vs, e, k, h => by
    show ((wipeE e vs).set v .hid)[k]? = _
    rw [List.getElem?_set_ne (fun z => h (by rw [z]; exact List.mem_cons_self)), wipeE_get vs e k (fun z => h (List.mem_cons_of_mem _ z))]
/-- the wiped places hold no list of their own -/
def Bare (ow : Ow) (sl : List Nat) : Prop := ∀ v ∈ sl, ∀ a, ow.sl[v]? ≠ some (some a)
theorem bare_of (R : Rel G F φ ow S env σ H) {sl : List Nat} (h : noOwn env sl = true) : Bare ow sl := fun v hv a e => by
  obtain ⟨ds, q⟩ := R.owE v a e
  have z := List.all_eq_true.mp h v hv
  rw [q] at z
  cases z
theorem off_bare {ow : Ow} {v : Nat} (h : ∀ a, ow.sl[v]? ≠ some (some a)) : ow.off v = ow := by
  obtain ⟨sl, tm⟩ := ow
  show Ow.mk (sl.set v none) tm = Ow.mk sl tm
  congr 1
  apply List.ext_getElem?
  intro k
  rw [List.getElem?_set]
  split
  · rename_i e
    subst e
    split
    · rename_i hl
      have h : ∀ a, sl[v]? ≠ some (some a) := h
      cases q : sl[v]? with
      | none => rw [List.getElem?_eq_getElem hl] at q; cases q
      | some o =>
        cases o with
        | none => rfl
        | some a => exact absurd q (h a)
    · rw [List.getElem?_eq_none (by omega)]
  · rfl
theorem wipe_bare : ∀ {sl : List Nat}, Bare ow sl → ow.wipe sl = ow
  | [], _ => rfl
  | v :: vs, h => by
    show (ow.wipe vs).off v = ow
    rw [wipe_bare fun w hw => h w (List.mem_cons_of_mem _ hw)]
    exact off_bare (h v List.mem_cons_self)
theorem Rel.wiped (R : Rel G F φ ow S env σ H) {sl : List Nat} (h : Bare ow sl) : Rel G F φ ow S (wipeE env sl) (L2.wipe σ sl) H := by
  have := R.wipe sl
  rw [wipe_bare h] at this
  exact this
/-- behind a block: the names as they were -/
theorem Rel.restore {e1 : En} {sl : List Nat} (R : Rel G F φ ow S env σ H) (Ri : Rel G F φ' ow S' e1 σ2 H') (st : Stp (mutA F φ ow) H (mutA F φ' ow) H') (p : φ <+: φ') (hb : Bare ow sl) (he : ∀ j, j ∉ sl → e1[j]? = env[j]?) : Rel G F φ' ow S' env σ H' :=
  ⟨R.lenE, R.lenO, fun i d e => by
    obtain ⟨v, h1, h2⟩ := R.slot i d e
    exact ⟨v, h1, h2.st st p⟩, fun i ds e => by
    obtain ⟨a, vs, h1, h2, h3, h4⟩ := R.own i ds e
    have hn : i ∉ sl := fun z => hb i z a h1
    obtain ⟨b, ws, k1, k2, k3, k4⟩ := Ri.own i ds (by rw [he i hn]; exact e)
    rw [h1] at k1
    cases k1
    exact ⟨a, ws, h1, h2, k3, k4⟩, Ri.tmp, Ri.owI, Ri.tmI, Ri.owT, Ri.owN, Ri.cells, Ri.nd, Ri.pre, Ri.new, Ri.there, Ri.u0, Ri.keep, Ri.tabs, Ri.lenS, R.owE⟩
/-- a target of names of the block -/
structure LcTg (G : Gd) (F : Fr) (g : TG) (mg : MG) (sl : List Nat) : Prop where
  run : ∀ (φ : List Addr) (ow : Ow) (S : Sto) (env : En) (σ : L2.St) (H : Hp) (v : V) (d : D) (Q : L2.St → Hp → Prop) (e1 : En) (S1 : Sto), Rel G F φ ow S (wipeE env sl) (L2.wipe σ sl) H → Bare ow sl → Rep G φ (mutA F φ ow) H v d → mg d (wipeE env sl) S = .nx e1 S1 →
    (∀ σ2, Rel G F φ ow S1 e1 σ2 H → L2.wipe σ2 sl = L2.wipe σ sl → (∀ j, j ∉ sl → e1[j]? = env[j]?) → Q σ2 H) → g v (L2.wipe σ sl) H Q
theorem lt_name {i : Nat} {sl : List Nat} (hi : i ∈ sl) : LcTg G F (gName i) (mgName i) sl := ⟨fun φ ow S env σ H v d Q e1 S1 R hb r e q => by
  cases e
  have R1 := R.setVal (i := i) (v := v) (d := d) (by rw [off_bare (hb i hi)]; exact r)
  rw [off_bare (hb i hi)] at R1
  refine q _ R1 (wipe_same (by rw [List.length_set, L2.wipe_length]) fun k hk => ?_) fun j hj => ?_
  · rw [List.getElem?_set_ne (fun z => hk (by rw [← z]; exact hi)), wipe_wipe k hk]
  · rw [List.getElem?_set_ne (fun z => hj (by rw [← z]; exact hi)), wipeE_get _ _ _ hj]⟩
def mgN2 (i j : Nat) : List D → En → Sto → RS := mgCons (mgName i) (mgCons (mgName j) mgNil)
theorem lt_two {i j : Nat} {sl : List Nat} (hi : i ∈ sl) (hj : j ∈ sl) : LcTg G F (gTup G.K 2 (gCons (gName i) (gCons (gName j) gNil))) (mgTup 2 (mgN2 i j)) sl := ⟨fun φ ow S env σ H v d Q e1 S1 R hb r e q => by
  cases d with
  | tup ds =>
    match ds, r, e with
    | [d1, d2], r, e =>
      cases e
      obtain ⟨x, vs, rfl, k, rl⟩ := Rep.ofTup r
      cases rl with
      | cons r1 rl =>
      cases rl with
      | cons r2 rl =>
      cases rl
      refine ⟨x, _, rfl, k, rfl, _, _, rfl, _, _, rfl, rfl, ?_⟩
      have R1 := R.setVal (i := i) (d := d1) (by rw [off_bare (hb i hi)]; exact r1)
      rw [off_bare (hb i hi)] at R1
      have R2 := R1.setVal (i := j) (d := d2) (by rw [off_bare (hb j hj)]; exact r2)
      rw [off_bare (hb j hj)] at R2
      refine q _ R2 (wipe_same (by rw [List.length_set, List.length_set, L2.wipe_length]) fun m hm => ?_) fun m hm => ?_
      · rw [List.getElem?_set_ne (fun z => hm (by rw [← z]; exact hj)), List.getElem?_set_ne (fun z => hm (by rw [← z]; exact hi)), wipe_wipe m hm]
      · rw [List.getElem?_set_ne (fun z => hm (by rw [← z]; exact hj)), List.getElem?_set_ne (fun z => hm (by rw [← z]; exact hi)), wipeE_get _ _ _ hm]
    | [], _, e => cases e
    | [_], _, e => cases e
    | _ :: _ :: _ :: _, _, e => cases e
  | _ => cases e⟩
theorem noX_ok {α β : Type} {r : Res α} {f : α → Sto → Res β} {b : β} {S' : Sto} (h : (noX r).bnd f = .ok b S') : ∃ a S1, r = .ok a S1 ∧ f a S1 = .ok b S' := by
  cases r with
  | ok a S1 => exact ⟨a, S1, rfl, h⟩
  | exn c p S1 => cases h
  | stuck => cases h
theorem lc_no {body : D → Sto → Res (Option D)} (hx : ∀ d S c p S', body d S ≠ .exn c p S') : ∀ (ds : List D) (S : Sto) (acc : List D) c p S', lcL body ds S acc ≠ .exn c p S'
  | [], S, acc, c, p, S', h => by cases h
  | d :: ds, S, acc, c, p, S', h => by
    unfold lcL at h
    cases e : body d S with
    | ok o S1 =>
      rw [e] at h
      cases o with
      | none => exact lc_no hx ds S1 acc c p S' h
      | some x =>
        have h : (if acc.length < 100000 then lcL body ds S1 (acc ++ [x]) else .stuck) = .exn c p S' := h
        split at h
        · exact lc_no hx ds S1 _ c p S' h
        · cases h
    | exn c1 p1 S1 => exact hx d S c1 p1 S1 e
    | stuck => rw [e] at h; cases h
theorem lift_lc {sl : List Nat} {mi : M (List D)} {mg : MG} {mt : M Bool} {me : M D} {g : TG} {tt : TT} {te : TE} (hg : LcTg G F g mg sl) (ht : ∀ σ H Q, LiftR G F WNo rpE mt σ H Q → tt σ H Q) (he : ∀ σ H Q, LiftR G F WNo (rpD G) me σ H Q → te σ H Q)
    (σ : L2.St) (H : Hp) (Q : VK) (h : LiftN G F W (mLcN sl mi mg mt me) σ H Q) : tLc (LiftI G F W mi) g tt te sl σ H Q := by
  obtain ⟨φ, ow, S, env, R, q⟩ := h
  unfold mLcN at q
  split at q
  · rename_i hno
    unfold mLc at q
    refine ⟨φ, ow, S, env, R, ?_⟩
    cases em : mi env S with
    | stuck => rw [em] at q; exact q.elim
    | exn c p S1 => rw [em] at q; exact q
    | ok ds S1 =>
      rw [em] at q
      have q : PostN G F W φ ow env σ H (lcL (lcBody sl mg mt me env) ds S1 []) Q := q
      intro φ1 H1 J R1 s1 p1 it L hL
      have q := q.go s1 p1
      obtain ⟨R0, s0⟩ := R1.push (vs := []) (ds := []) .nil hL
      have hb : Bare ow sl := bare_of R hno
      refine ⟨fun i m H' => m = ds.length - i ∧ i ≤ ds.length ∧ ∃ φ' S' acc, Rel G F φ' (ow.push L acc) S' env σ H' ∧ Stp (mutA F φ1 ow) H1 (mutA F φ' (ow.push L acc)) H' ∧ φ1 <+: φ' ∧ PostN G F W φ1 ow env σ H1 (lcL (lcBody sl mg mt me env) (ds.drop i) S' acc) Q,
        ⟨ds.length, by simp, Nat.zero_le _, φ1, S1, [], R0, s0, List.prefix_refl _, by rw [List.drop_zero]; exact q⟩, ?_⟩
      rintro i m H' ⟨rfl, hi, φ2, S2, acc, R2, s2, p2, q2⟩
      obtain ⟨g1, g2, g3⟩ := it φ2 _ H' s2 p2 (fun a => R2.mutT) i
      by_cases hlt : i < ds.length
      · refine .inr ⟨g1 hlt, fun H3 => ∃ φ' S' acc, Rel G F φ' (ow.push L acc) S' env σ H3 ∧ Stp (mutA F φ1 ow) H1 (mutA F φ' (ow.push L acc)) H3 ∧ φ1 <+: φ' ∧ PostN G F W φ1 ow env σ H1 (lcL (lcBody sl mg mt me env) (ds.drop (i + 1)) S' acc) Q,
          fun H3 n3 => ⟨ds.length - (i + 1), by omega, rfl, hlt, n3⟩, fun x H2 y => ?_⟩
        obtain ⟨sm, d, hd, rd⟩ := g3 x H2 hlt y
        have R3 := R2.same sm
        have s3 : Stp (mutA F φ1 ow) H1 (mutA F φ2 (ow.push L acc)) H2 := s2.trans (stp_same sm)
        have hdr : ds.drop i = d :: ds.drop (i + 1) := by
          rw [List.drop_eq_getElem_cons hlt]
          rw [List.getElem?_eq_getElem hlt] at hd
          rw [Option.some.inj hd]
        rw [hdr] at q2
        have hbp : Bare (ow.push L acc) sl := hb
        have R3w := R3.wiped hbp
        have q3 : PostN G F W φ1 ow env σ H1 ((lcBody sl mg mt me env d S2).bnd fun o S1 => match o with
          | some x => if acc.length < 100000 then lcL (lcBody sl mg mt me env) (ds.drop (i + 1)) S1 (acc ++ [x]) else .stuck
          | none => lcL (lcBody sl mg mt me env) (ds.drop (i + 1)) S1 acc) Q := q2
        cases eg : mg d (wipeE env sl) S2 with
        | nx e1 S3 =>
          have eb : lcBody sl mg mt me env d S2 = (noX (mt e1 S3)).bnd fun b S2 => if b = true then (noX (me e1 S2)).bnd fun y S3 => .ok (some y) S3 else .ok none S2 := by unfold lcBody; rw [eg]
          rw [eb] at q3
          refine hg.run φ2 _ S2 env σ H2 x d _ e1 S3 R3w hbp rd eg fun σ2 R4 hw hj => ⟨hw, ht _ _ _ ⟨φ2, _, S3, e1, R4, ?_⟩⟩
          cases et : mt e1 S3 with
          | stuck => rw [et] at q3; exact q3.elim
          | exn c p S4 => rw [et] at q3; exact q3.elim
          | ok b S4 =>
            rw [et] at q3
            intro φ5 H5 b' R5 s5 p5 eb'
            subst eb'
            cases b' with
            | false =>
              have q4 : PostN G F W φ1 ow env σ H1 (lcL (lcBody sl mg mt me env) (ds.drop (i + 1)) S4 acc) Q := q3
              show ∃ φ' S' acc, _
              exact ⟨φ5, S4, acc, R3.restore R5 s5 p5 hbp hj, s3.trans s5, p2.trans p5, q4⟩
            | true =>
              have q4 : PostN G F W φ1 ow env σ H1 (((noX (me e1 S4)).bnd fun y S3 => .ok (some y) S3).bnd fun o S1 => match o with
                | some x => if acc.length < 100000 then lcL (lcBody sl mg mt me env) (ds.drop (i + 1)) S1 (acc ++ [x]) else .stuck
                | none => lcL (lcBody sl mg mt me env) (ds.drop (i + 1)) S1 acc) Q := q3
              show te σ2 H5 _
              refine he _ _ _ ⟨φ5, _, S4, e1, R5, ?_⟩
              cases ee : me e1 S4 with
              | stuck => rw [ee] at q4; exact q4.elim
              | exn c p S6 => rw [ee] at q4; exact q4.elim
              | ok yd S6 =>
                rw [ee] at q4
                have q5 : PostN G F W φ1 ow env σ H1 (if acc.length < 100000 then lcL (lcBody sl mg mt me env) (ds.drop (i + 1)) S6 (acc ++ [yd]) else .stuck) Q := q4
                intro φ7 H7 yv R7 s7 p7 r7
                split at q5
                · rename_i hz
                  have s37 : Stp (mutA F φ2 (ow.push L acc)) H2 (mutA F φ7 (ow.push L acc)) H7 := s5.trans s7
                  have R8 := R3.restore R7 s37 (p5.trans p7) hbp hj
                  obtain ⟨vs, k1, k2⟩ := R8.tmp L acc List.mem_cons_self
                  obtain ⟨R9, s9⟩ := R8.setTmp k1 (k2.app (.cons r7 .nil))
                  exact ⟨vs, k1, by rw [k2.length]; exact sz5' hz, φ7, S6, acc ++ [yd], R9, (s3.trans s37).trans s9, (p2.trans p5).trans p7, q5⟩
                · exact q5.elim
        | _ =>
          have eb : lcBody sl mg mt me env d S2 = .stuck := by unfold lcBody; rw [eg]
          rw [eb] at q3
          exact q3.elim
      · have ei : i = ds.length := by omega
        subst ei
        refine .inl ⟨g2 rfl, ?_⟩
        rw [List.drop_length] at q2
        have q2 : ∀ φ' H' a, Rel G F φ' (ow.push a acc) S2 env σ H' → Stp (mutA F φ1 ow) H1 (mutA F φ' (ow.push a acc)) H' → φ1 <+: φ' → Q (.ref a) H' := q2
        exact q2 φ2 H' L R2 s2 p2
  · exact q.elim
end
section
variable {X : Cx} {T : List (Addr × Str)} {F : Fr} {W : WX}
def STs (X : Cx) (T : List (Addr × Str)) (F : Fr) (W : WX) (m : M Bool) (ifs : List Expr) : Prop := PTs X ifs (LiftR (gX X T) F W rpE m)
theorem PTs.imp {X : Cx} {e : List Expr} {t t' : TT} (h : PTs X e t) (i : ∀ σ H Q, t' σ H Q → t σ H Q) : PTs X e t' := ⟨fun pins s σ H Q I q => h.run pins s σ H Q I (i σ H Q q)⟩
theorem sts_nil : STs X T F W (mC true) [] := PTs.imp pts_nil fun σ H Q ⟨φ, ow, S, env, R, q⟩ => PostR.here (a := true) q R rfl
theorem sts_one {c : Expr} {na : M Bool} (h : ST X T F W na c) : STs X T F W na [c] := pts_one h
variable {elt tg iter : Expr} {ifs : List Expr} {scope : Scope} {own : List (Str × Nat)} {pos : Pos} {mi : M (List D)} {mg : MG} {mt : M Bool} {me : M D} {g : TG}
theorem sn_lc (own : List (Str × Nat)) (hc : X.calm = true) (hN : X.N.Nodup) (hi : SI X T F W mi tg iter) (ok : BlkOk X.N X.env.scope scope own) (hl : LcTg (gX X T) F g mg (own.map (·.2)))
    (hg : ∀ (s : Shared) (H : Hp) (C : Addr) (cl : List (Str × Addr)) (fp : List Addr), PG (X.blk s H scope (compEnvC scope cl C X.env) fp) tg g)
    (ht : ∀ (s : Shared) (H : Hp) (C : Addr) (cl : List (Str × Addr)) (fp : List Addr), STs (X.blk s H scope (compEnvC scope cl C X.env) fp) T F WNo mt ifs)
    (he : ∀ (s : Shared) (H : Hp) (C : Addr) (cl : List (Str × Addr)) (fp : List Addr), SE (X.blk s H scope (compEnvC scope cl C X.env) fp) T F WNo me elt) (hs : ∀ x, foldedSetIterable iter X.env x = pure x := by intro _; rfl) :
    SN X T F W (mLcN (own.map (·.2)) mi mg mt me) (.ListComp elt [⟨tg, iter, ifs, 0⟩] scope pos) :=
  PE.imp (pe_lc (tt := LiftR (gX X T) F WNo rpE mt) (te := LiftR (gX X T) F WNo (rpD (gX X T)) me) hc hN hi ok hg ht he hs) (lift_lc hl (fun _ _ _ z => z) fun _ _ _ z => z)
/-- name = [..] on one line: a datum -/
theorem ss_setLc (i : Nat) (own : List (Str × Nat)) {y : Str} {py spos : Pos} (hc : X.calm = true) (hN : X.N.Nodup) (hy : X.N[i]? = some y) (hyl : X.env.scope.names.lookup y = some .local)
    (hsw : swapsWith (.ListComp elt [⟨tg, iter, ifs, 0⟩] scope pos) (some (.Name y py)) spos.line X.env = pure true) (hi : SI X T F W mi tg iter) (ok : BlkOk X.N X.env.scope scope own) (hl : LcTg (gX X T) F g mg (own.map (·.2)))
    (hg : ∀ (s : Shared) (H : Hp) (C : Addr) (cl : List (Str × Addr)) (fp : List Addr), PG (X.blk s H scope (compEnvC scope cl C X.env) fp) tg g)
    (ht : ∀ (s : Shared) (H : Hp) (C : Addr) (cl : List (Str × Addr)) (fp : List Addr), STs (X.blk s H scope (compEnvC scope cl C X.env) fp) T F WNo mt ifs)
    (he : ∀ (s : Shared) (H : Hp) (C : Addr) (cl : List (Str × Addr)) (fp : List Addr), SE (X.blk s H scope (compEnvC scope cl C X.env) fp) T F WNo me elt) (hs : ∀ x, foldedSetIterable iter X.env x = pure x := by intro _; rfl) :
    SS X T F W (mSet i (mLsV (mLcN (own.map (·.2)) mi mg mt me))) (.Assign [.Name y py] (.ListComp elt [⟨tg, iter, ifs, 0⟩] scope pos) spos) :=
  PS.imp (ps_setLc (i := i) (tt := LiftR (gX X T) F WNo rpE mt) (te := LiftR (gX X T) F WNo (rpD (gX X T)) me) hc hN hy hyl hsw hi ok hg ht he hs) fun D σ H h => by
    have h2 : ∀ σ H Q, LiftN (gX X T) F W (mLcN (own.map (·.2)) mi mg mt me) σ H Q → tLc (LiftI (gX X T) F W mi) g (LiftR (gX X T) F WNo rpE mt) (LiftR (gX X T) F WNo (rpD (gX X T)) me) (own.map (·.2)) σ H Q := lift_lc hl (fun _ _ _ z => z) fun _ _ _ z => z
    obtain ⟨φ, ow, S, env, R, q⟩ := h
    refine h2 _ _ _ (lift_bSN (D := D) (k := fun ds S1 => .nx (env.set i (.val (.lst ds))) S1) R ?_ fun ds S1 φ1 H1 p R1 s1 p1 q1 => ?_)
    · unfold mSet mLsV at q
      cases em : mLcN (own.map (·.2)) mi mg mt me env S with
      | ok ds S1 => rw [em] at q; exact q
      | exn c p S1 => rw [em] at q; exact q
      | stuck => rw [em] at q; exact q
    · obtain ⟨R2, s2, r2⟩ := R1.tmpVal
      exact q1 φ1 (ow.off i) _ H1 (R2.setVal (r2.st off_stp (List.prefix_refl _))) (s2.trans off_stp) (List.prefix_refl _)
/-- .. a list of the name's own -/
theorem ss_setLcOwn (i : Nat) (own : List (Str × Nat)) {y : Str} {py spos : Pos} (hc : X.calm = true) (hN : X.N.Nodup) (hy : X.N[i]? = some y) (hyl : X.env.scope.names.lookup y = some .local)
    (hsw : swapsWith (.ListComp elt [⟨tg, iter, ifs, 0⟩] scope pos) (some (.Name y py)) spos.line X.env = pure true) (hi : SI X T F W mi tg iter) (ok : BlkOk X.N X.env.scope scope own) (hl : LcTg (gX X T) F g mg (own.map (·.2)))
    (hg : ∀ (s : Shared) (H : Hp) (C : Addr) (cl : List (Str × Addr)) (fp : List Addr), PG (X.blk s H scope (compEnvC scope cl C X.env) fp) tg g)
    (ht : ∀ (s : Shared) (H : Hp) (C : Addr) (cl : List (Str × Addr)) (fp : List Addr), STs (X.blk s H scope (compEnvC scope cl C X.env) fp) T F WNo mt ifs)
    (he : ∀ (s : Shared) (H : Hp) (C : Addr) (cl : List (Str × Addr)) (fp : List Addr), SE (X.blk s H scope (compEnvC scope cl C X.env) fp) T F WNo me elt) (hs : ∀ x, foldedSetIterable iter X.env x = pure x := by intro _; rfl) :
    SS X T F W (mSetOwn i (mLcN (own.map (·.2)) mi mg mt me)) (.Assign [.Name y py] (.ListComp elt [⟨tg, iter, ifs, 0⟩] scope pos) spos) :=
  PS.imp (ps_setLc (i := i) (tt := LiftR (gX X T) F WNo rpE mt) (te := LiftR (gX X T) F WNo (rpD (gX X T)) me) hc hN hy hyl hsw hi ok hg ht he hs) fun D σ H h => by
    have h2 : ∀ σ H Q, LiftN (gX X T) F W (mLcN (own.map (·.2)) mi mg mt me) σ H Q → tLc (LiftI (gX X T) F W mi) g (LiftR (gX X T) F WNo rpE mt) (LiftR (gX X T) F WNo (rpD (gX X T)) me) (own.map (·.2)) σ H Q := lift_lc hl (fun _ _ _ z => z) fun _ _ _ z => z
    obtain ⟨φ, ow, S, env, R, q⟩ := h
    refine h2 _ _ _ (lift_bSN R q fun ds S1 φ1 H1 p R1 s1 p1 q1 => ?_)
    split at q1
    · rename_i hi
      obtain ⟨R2, s2⟩ := R1.pop hi
      exact q1 φ1 (ow.on i p) _ H1 R2 s2 (List.prefix_refl _)
    · exact q1.elim
end
end DL
set_option Elab.async false
set_option linter.all false
set_option maxRecDepth 100000
/-! DL9: defs and calls by data -/
namespace DL
open PySem PySem.Spec PyProof.Rows L2

abbrev MF := List D → Sto → Res D
abbrev ow0 : Ow := ⟨[], []⟩
def PostF (G : Gd) (F : Fr) : Res D → VK → XK → Prop
  | .ok d S', Q, _ => ∀ φ' H' v, Rel G F φ' ow0 S' [] [] H' → Rep G φ' (mutA F φ' ow0) H' v d → Q v H'
  | .exn c p S', _, E => ∀ φ' H' cls dd, Rel G F φ' ow0 S' [] [] H' → XRep G φ' (mutA F φ' ow0) H' c p cls dd → E cls dd H'
  | .stuck, _, _ => False
/-- what a def promises, by its plain meaning -/
def spOf (G : Gd) (n : Nat) (m : MF) : Sp := fun vs H Q E => vs.length = n ∧ ∃ φ U0 S ds, Rel G ⟨U0, H, φ⟩ φ ow0 S [] [] H ∧ RepL G φ (mutA ⟨U0, H, φ⟩ φ ow0) H vs ds ∧ PostF G ⟨U0, H, φ⟩ (m ds S) Q E
section
variable {G : Gd} {F : Fr} {φ φ1 φ' : List Addr} {ow : Ow} {S S' : Sto} {env : En} {σ σ2 : L2.St} {H H1 H' : Hp}
/-- the frame that a callee is entered with -/
def Fr.callee (F : Fr) (φ : List Addr) (ow : Ow) (H : Hp) : Fr := ⟨fun a => F.U0 a ∨ ow.has a, H, φ⟩
theorem mut_callee {F : Fr} {φ φ' : List Addr} {ow : Ow} {H : Hp} : mutA (F.callee φ ow H) φ' ow0 = mutA F φ' ow := by
  funext a
  apply propext
  show ((F.U0 a ∨ ow.has a) ∨ a ∈ φ' ∨ ow0.has a) ↔ (F.U0 a ∨ a ∈ φ' ∨ ow.has a)
  have z : ¬ ow0.has a := by simp [Ow.has]
  constructor
  · rintro ((h | h) | h | h)
    · exact .inl h
    · exact .inr (.inr h)
    · exact .inr (.inl h)
    · exact absurd h z
  · rintro (h | h | h)
    · exact .inl (.inl h)
    · exact .inr (.inl h)
    · exact .inl (.inr h)
theorem Rel.enter (R : Rel G F φ ow S env σ H) : Rel G (F.callee φ ow H) φ ow0 S [] [] H := by
  have c := R.cells
  rw [← mut_callee (F := F) (φ := φ) (φ' := φ) (ow := ow) (H := H)] at c
  exact ⟨rfl, rfl, fun i d e => by simp at e, fun i d e => by simp at e, fun a ds h => by simp at h, fun i j a e => by simp at e, .nil, fun a h => by simp at h, fun a h => by simp [Ow.has] at h, c, R.nd, List.prefix_refl _, fun a h => .inl h, R.there,
    fun a h => by
      rcases h with h | h
      · exact R.u0 a h
      · exact ⟨(R.owN a h).1, (R.owN a h).2.2.2⟩, fun a o _ h _ => h, R.tabs, R.lenS, fun i a e => by simp at e⟩
theorem Rel.back (R : Rel G F φ ow S env σ H) (Rc : Rel G (F.callee φ ow H) φ' ow0 S' [] [] H') : Rel G F φ' ow S' env σ H' ∧ Stp (mutA F φ ow) H (mutA F φ' ow) H' ∧ φ <+: φ' := by
  have pf : φ <+: φ' := Rc.pre
  have kp : ∀ a o, NT o → H a = some o → a ∉ φ → H' a = some o := Rc.keep
  have nw : ∀ a ∈ φ', a ∈ φ ∨ Nil0 H a := Rc.new
  have u : ∀ a, (F.U0 a ∨ ow.has a) → a ∉ φ' ∧ Lv H' a := Rc.u0
  have st : Stp (mutA F φ ow) H (mutA F φ' ow) H' := fun a o nt e n => by
    refine ⟨kp a o nt e fun z => n (.inr (.inl z)), fun z => ?_⟩
    rcases z with z | z | z
    · exact n (.inl z)
    · rcases nw a z with z | z
      · exact n (.inr (.inl z))
      · exact z o nt e
    · exact n (.inr (.inr z))
  have c := Rc.cells
  rw [mut_callee] at c
  refine ⟨⟨R.lenE, R.lenO, fun i d e => ?_, fun i ds e => ?_, fun a ds h => ?_, R.owI, R.tmI, R.owT, fun a h => ?_, c, Rc.nd, R.pre.trans pf, fun a h => ?_, Rc.there, fun a h => u a (.inl h), fun a o nt h1 h2 => ?_, Rc.tabs, Rc.lenS, R.owE⟩, st, pf⟩
  · obtain ⟨v, h1, h2⟩ := R.slot i d e
    exact ⟨v, h1, h2.st st pf⟩
  · obtain ⟨a, vs, h1, h2, h3, h4⟩ := R.own i ds e
    exact ⟨a, vs, h1, h2, kp a _ nt_lst h3 (R.owN a (.inl (List.mem_iff_getElem?.mpr ⟨i, h1⟩))).1, h4.st st pf⟩
  · obtain ⟨vs, h1, h2⟩ := R.tmp a ds h
    exact ⟨vs, kp a _ nt_lst h1 (R.owN a (.inr (List.mem_map.mpr ⟨_, h, rfl⟩))).1, h2.st st pf⟩
  · obtain ⟨h1, h2, h3, h4⟩ := R.owN a h
    exact ⟨(u a (.inr h)).1, h2, h3, (u a (.inr h)).2⟩
  · rcases nw a h with h | h
    · exact R.new a h
    · by_cases hm : a ∈ F.φ0
      · exact .inl hm
      · exact .inr fun o nt e => h o nt (R.keep a o nt e hm)
  · refine kp a o nt (R.keep a o nt h1 h2) fun hm => ?_
    rcases R.new a hm with z | z
    · exact h2 z
    · exact z o nt h1
/-- from the caller's wish to the callee's -/
theorem PostR.callee {W : WX} {r : Res D} {Q : VK} (R : Rel G F φ ow S env σ H) (h : PostR G F W (rpD G) φ ow env σ H r Q) : PostF G (F.callee φ ow H) r Q (WE W σ) := by
  cases r with
  | ok d S' =>
    intro φ' H' v Rc rp
    obtain ⟨R', st, pf⟩ := R.back Rc
    rw [mut_callee] at rp
    exact h φ' H' v R' st pf rp
  | exn c p S' =>
    intro φ' H' cls dd Rc x
    obtain ⟨R', st, pf⟩ := R.back Rc
    rw [mut_callee] at x
    exact h φ' H' cls dd R' st pf x
  | stuck => exact h
theorem spOf_call {W : WX} {n : Nat} {m : MF} {ds : List D} {vs : List V} {Q : VK} (R : Rel G F φ ow S env σ H) (hn : vs.length = n) (r : RepL G φ (mutA F φ ow) H vs ds) (h : PostR G F W (rpD G) φ ow env σ H (m ds S) Q) : spOf G n m vs H Q (WE W σ) :=
  ⟨hn, φ, (F.callee φ ow H).U0, S, ds, R.enter, by
    have e : mutA ⟨(F.callee φ ow H).U0, H, φ⟩ φ ow0 = mutA F φ ow := mut_callee
    rw [e]
    exact r, PostR.callee R h⟩
end

/-! ### a def's body -/
def startE (n : Nat) (ds : List D) : En := ds.map Slot.val ++ List.replicate (n - ds.length) Slot.hid
def endF : RS → Res D
  | .nx _ S => .ok .non S
  | .rt d S => .ok d S
  | .exn c p _ S => .exn c p S
  | _ => .stuck
def runF (n : Nat) (mb : MS) : MF := fun ds S => endF (mb (startE n ds) S)
section
variable {G : Gd} {F : Fr} {φ : List Addr} {S : Sto} {H : Hp}
theorem Rel.start {N : List Str} {vs : List V} {ds : List D} (R : Rel G F φ ow0 S [] [] H) (r : RepL G φ (mutA F φ ow0) H vs ds) : Rel G F φ ⟨List.replicate (startE N.length ds).length none, []⟩ S (startE N.length ds) (L2.start N vs) H ∧
    mutA F φ ⟨List.replicate (startE N.length ds).length none, []⟩ = mutA F φ ow0 := by
  have no : ∀ a, ¬ (Ow.mk (List.replicate (startE N.length ds).length none) []).has a := fun a h => by
    rcases h with h | h
    · have := (List.mem_replicate.mp (show some a ∈ List.replicate (startE N.length ds).length none from h)).2
      cases this
    · simp at h
  have e : mutA F φ ⟨List.replicate (startE N.length ds).length none, []⟩ = mutA F φ ow0 := by
    funext a
    apply propext
    constructor
    · rintro (h | h | h)
      · exact .inl h
      · exact .inr (.inl h)
      · exact absurd h (no a)
    · rintro (h | h | h)
      · exact .inl h
      · exact .inr (.inl h)
      · simp [Ow.has] at h
  have rs : ∀ (i : Nat) (a : Addr), (List.replicate (startE N.length ds).length (none : Option Addr))[i]? ≠ some (some a) := fun i a h => by
    rw [List.getElem?_replicate] at h
    split at h <;> cases h
  have hl := r.length
  refine ⟨⟨?_, by simp, fun i d h => ?_, fun i es h => ?_, fun a es h => by simp at h, fun i j a h => absurd h (rs i a), .nil, fun a h => absurd (.inl h) (no a), fun a h => absurd h (no a), ?_, R.nd, R.pre, R.new, R.there, R.u0, R.keep, R.tabs, R.lenS, fun i a h => absurd h (rs i a)⟩, e⟩
  · unfold startE L2.start
    simp only [List.length_append, List.length_map, List.length_replicate, hl]
  · unfold startE at h
    by_cases hi : i < ds.length
    · rw [List.getElem?_append_left (by simpa using hi), List.getElem?_map, List.getElem?_eq_getElem hi] at h
      cases h
      obtain ⟨v, e1, e2⟩ := r.get (List.getElem?_eq_getElem hi)
      refine ⟨v, ?_, by rw [e]; exact e2⟩
      unfold L2.start
      rw [List.getElem?_append_left (by simpa [hl] using hi), List.getElem?_map, e1]
      rfl
    · rw [List.getElem?_append_right (by simpa using hi), List.getElem?_replicate] at h
      split at h <;> cases h
  · unfold startE at h
    by_cases hi : i < ds.length
    · rw [List.getElem?_append_left (by simpa using hi), List.getElem?_map, List.getElem?_eq_getElem hi] at h
      cases h
    · rw [List.getElem?_append_right (by simpa using hi), List.getElem?_replicate] at h
      split at h <;> cases h
  · rw [e]
    exact R.cells
end
/-- THE RULE of a def -/
theorem def_ok {P : Program} {w : World} {K : PySem.W.Frag} {mg : Str → Option Value} {base : Heap} {T : List (Addr × Str)} {x qual : Str} {params : Arguments} {body : List Stmt} {scope : Scope} {dvs : List V} {kws : List (Str × V)} {f : Addr} {fd : FuncData} {N ps : List Str} {k : Nat} {mb : MS} {m : MF}
    (Fd : FunD K x qual params body scope dvs kws f fd) (S : FnScope N ps scope)
    (hbody : ∀ (cdv : Value) (A : Around) (outer : List Env) (s : Shared) (H : Hp) (E : XK) (F : Fr), (∃ (oc : Value) (od : Option Addr) (fd : FuncData) (osl : Array (Option Value)), K.lookup f = some (⟨oc, od, .func fd, osl⟩ : Obj) ∧ fd.code = cdv) →
      Room k (A.deeper (envOfC qual scope s.heap.objs.size f cdv)) → SSs (cxOf (L2.CX P w) P w K mg base N qual scope f cdv A outer s H E) T F (fun cls d _ H => E cls d H) mb body)
    (hm : ∀ ds S, ds.length = ps.length → m ds S ≠ .stuck → runF N.length mb ds S = m ds S) : FnOk P w K mg base (L2.CX P w) (k + 1) f fd ps (spOf ⟨K, mg, T⟩ ps.length m) := by
  obtain ⟨oc, od, dV, kV, doc, pm, an, cdv, ct, osl, rfl, lk, hcd, _, _⟩ := Fd.ex
  refine fn_of lk hcd S (fun vs H Q E h => h.1) fun A outer s H vs Q E hr h => ?_
  obtain ⟨hl, φ, U0, S0, ds, R, r, post⟩ := h
  have hk : m ds S0 ≠ .stuck := fun z => by rw [z] at post; exact post
  have em := hm ds S0 (r.length.symm.trans hl) hk
  rw [← em] at post
  refine ⟨_, hbody cdv A outer s H E ⟨U0, H, φ⟩ ⟨oc, od, _, osl, lk, rfl⟩ hr, ?_⟩
  obtain ⟨R1, e1⟩ := R.start (N := N) r
  refine ⟨φ, _, S0, startE N.length ds, R1, ?_⟩
  unfold runF at post
  show PostS ⟨K, mg, T⟩ ⟨U0, H, φ⟩ _ φ _ H (mb (startE N.length ds) S0) { nx := fun _ H' => Q .non H', rt := Q }
  cases eb : mb (startE N.length ds) S0 with
  | nx e S' =>
    rw [eb] at post
    exact fun φ' ow' σ' H' R' s' p' => post φ' H' .non R'.drop .non
  | rt d S' =>
    rw [eb] at post
    exact fun φ' H' v R' rp => post φ' H' v R' rp
  | exn c p e S' =>
    rw [eb] at post
    intro φ' ow' σ' H' cls dd R' _ _ x
    refine post φ' H' cls dd R'.drop ?_
    obtain ⟨x1, x2⟩ := x
    refine ⟨x1, ?_⟩
    cases p with
    | none => exact x2
    | some fd =>
      obtain ⟨y, v, q1, q2, q4, q3⟩ := x2
      exact ⟨y, v, q1, q2, (stp_end y _ (fun _ z => by cases z) q2 q4).2, q3.st stp_end (List.prefix_refl _)⟩
  | bk e S' => rw [eb] at post; exact post.elim
  | ct e S' => rw [eb] at post; exact post.elim
  | stuck => rw [eb] at post; exact post.elim

/-! ### a def that may be called -/
def pick {α : Type} (ix : List Nat) (l : List α) : List α := ix.filterMap (l[·]?)
theorem Vals.pick {vs : List V} {us : List Value} (h : Vals vs us) : ∀ ix : List Nat, Vals (DL.pick ix vs) (DL.pick ix us)
  | [] => .nil
  | i :: ix => by
    unfold DL.pick
    cases e : vs[i]? with
    | some v =>
      obtain ⟨u, hu, r⟩ := h.get e
      rw [List.filterMap_cons, List.filterMap_cons, e, hu]
      exact .cons r (Vals.pick h ix)
    | none =>
      have e2 : us[i]? = none := by
        rw [List.getElem?_eq_none_iff] at e ⊢
        rw [← h.length]
        exact e
      rw [List.filterMap_cons, List.filterMap_cons, e, e2]
      exact Vals.pick h ix
theorem RepL.pick {G : Gd} {φ : List Addr} {U : Addr → Prop} {H : Hp} {vs : List V} {ds : List D} (h : RepL G φ U H vs ds) : ∀ ix : List Nat, RepL G φ U H (DL.pick ix vs) (DL.pick ix ds)
  | [] => .nil
  | i :: ix => by
    unfold DL.pick
    cases e : ds[i]? with
    | some v =>
      obtain ⟨u, hu, r⟩ := h.get e
      rw [List.filterMap_cons, List.filterMap_cons, e, hu]
      exact .cons r (RepL.pick h ix)
    | none =>
      have e2 : vs[i]? = none := by
        rw [List.getElem?_eq_none_iff] at e ⊢
        rw [h.length]
        exact e
      rw [List.filterMap_cons, List.filterMap_cons, e, e2]
      exact RepL.pick h ix
/-- the def at f, called with np positional values and the keywords ks; ix: where the parameters' values stand among them -/
structure CalN (P : Program) (w : World) (K : PySem.W.Frag) (mg : Str → Option Value) (base : Heap) (T : List (Addr × Str)) (k : Nat) (np : Nat) (ks : List Str) (ix : List Nat) (f : Addr) (n : Nat) (m : MF) : Prop where
  ex : ∃ (fd : FuncData) (ps : List Str), ps.length = n ∧ FnOk P w K mg base (L2.CX P w) k f fd ps (spOf ⟨K, mg, T⟩ n m) ∧ PySem.W.keepIn K (.ref f) = true ∧
    ∀ (s : Shared) (us ws : List Value), K.In s.heap → us.length = np → ws.length = ks.length → BindsTo s fd ⟨us, ks.zip ws⟩ (ps.zip (pick ix (us ++ ws)))
/-- .. as it stands behind the top -/
structure DefB (P : Program) (w : World) (K : PySem.W.Frag) (mg : Str → Option Value) (base : Heap) (T : List (Addr × Str)) (k : Nat) (x : Str) (params : Arguments) (body : List Stmt) (scope : Scope) (ps : List Str) (m : MF) : Prop where
  ex : ∃ (f : Addr) (fd : FuncData), FunD K x x params body scope [] [] f fd ∧ FnOk P w K mg base (L2.CX P w) k f fd ps (spOf ⟨K, mg, T⟩ ps.length m) ∧ mg x = some (.ref f)
section
variable {P : Program} {w : World} {K : PySem.W.Frag} {mg : Str → Option Value} {base : Heap} {T : List (Addr × Str)} {k : Nat} {x : Str} {params : Arguments} {body : List Stmt} {scope : Scope} {ps : List Str} {m : MF}
theorem DefB.cal (c : DefB P w K mg base T k x params body scope ps m) (np : Nat) (ks : List Str) (ix : List Nat)
    (hb : ∀ (kV doc pm : Value) (an : Option Addr) (cdv ct : Value) (us ws : List Value), us.length = np → ws.length = ks.length → bindArgs (PySem.W.fnOf x x params body scope .none kV doc pm an cdv ct) ⟨us, ks.zip ws⟩ = pure (ps.zip (pick ix (us ++ ws)))) :
    ∃ f, mg x = some (.ref f) ∧ CalN P w K mg base T k np ks ix f ps.length m := by
  obtain ⟨f, fd, Fd, Fo, hm⟩ := c.ex
  refine ⟨f, hm, fd, ps, rfl, Fo, Fd.kp, fun s us ws _ h1 h2 => ?_⟩
  obtain ⟨oc, od, dV, kV, doc, pm, an, cdv, ct, osl, rfl, lk, hcd, hD, hK⟩ := Fd.ex
  rcases hD with ⟨_, rfl⟩ | ⟨e, _⟩
  · exact .of_eq (hb kV doc pm an cdv ct us ws h1 h2)
  · exact absurd rfl e
theorem DefB.mono {j : Nat} (c : DefB P w K mg base T k x params body scope ps m) (h : k ≤ j) : DefB P w K mg base T j x params body scope ps m := by
  obtain ⟨f, fd, Fd, Fo, hm⟩ := c.ex
  exact ⟨f, fd, Fd, Fo.mono h, hm⟩
end
/-- the written arguments of a call -/
structure PC (X : Cx) (es : List Expr) (kws : List Keyword) (ks : List Str) (t tk : TA) : Prop where
  run : ∀ (pos : Pos) (f : Addr) (pins : List (Addr × Obj)) (s : Shared) (σ : L2.St) (H : Hp) (Qv : Value → Shared → Prop) (R : List V → List V → Hp → Prop), Inv X pins σ H s → PySem.W.keepIn X.K (.ref f) = true →
    t σ H (fun vs H1 => tk σ H1 fun zs H2 => R vs zs H2) → (∀ us ws s2 vs zs H2, Inv X pins σ H2 s2 → Vals vs us → Vals zs ws → R vs zs H2 → wpAny (model X.prog X.w) X.A (call (.ref f) us (ks.zip ws)) Qv X.xe s2) →
    wpAny (model X.prog X.w) X.A (callWith pos (.ref f) [] (backTo pos (starEach es X.env)) (backToKw pos (keywordEach kws X.env))) Qv X.xe s
section
variable {X : Cx} {e : Expr} {es : List Expr} {kws : List Keyword} {ks : List Str} {t tk : TA}
theorem pc_none : PC X [] [] [] tNil tNil := ⟨fun pos f pins s σ H Qv R I hk h q => PySem.W.callWith_K0 I.kIn hk (q [] [] s [] [] H I .nil .nil h)⟩
theorem pc_pos (ha : PA X (e :: es) t) (he : starEach (e :: es) X.env = (false, eval e X.env) :: starEach es X.env := by rfl) (hpl : ∀ pos, (backTo pos (starEach es X.env)).any (·.1) = false := by intro _; rfl) : PC X (e :: es) [] [] t tNil :=
  ⟨fun pos f pins s σ H Qv R I hk h q => PySem.W.callWith_K (h₀ := X.base) I.ok.mod.kin hk (thn (ha.run pos pins s σ H _ I h) fun us s1 ⟨vs, H1, I1, r, q1⟩ => ⟨I1.kIn, q us [] s1 vs [] H1 I1 r .nil q1⟩) he (hpl pos)⟩
theorem pc_kw (hkw : PK X kws tk) (hall : ∀ pos, (backToKw pos (keywordEach kws X.env)).all (·.1.isSome) = true := by intro _; rfl) (hks : ∀ pos, (backToKw pos (keywordEach kws X.env)).filterMap (·.1) = ks := by intro _; rfl)
    (hpl : ∀ pos, ((backTo pos (starEach [] X.env)).any (·.1) || (backToKw pos (keywordEach kws X.env)).any (·.1.isNone)) = false := by intro _; rfl) : PC X [] kws ks tNil tk :=
  ⟨fun pos f pins s σ H Qv R I hk h q => PySem.W.callWith_KW0 (h₀ := X.base) I.ok.mod.kin hk (hall pos) (thn (hkw.run pos pins s σ H _ I h) fun ws s1 ⟨zs, H1, I1, r, q1⟩ => ⟨I1.kIn, by
    rw [hks pos]
    exact q [] ws s1 [] zs H1 I1 .nil r q1⟩) (hpl pos)⟩
theorem pc_mix (ha : PA X (e :: es) t) (hkw : PK X kws tk) (hall : ∀ pos, (backToKw pos (keywordEach kws X.env)).all (·.1.isSome) = true := by intro _; rfl) (hks : ∀ pos, (backToKw pos (keywordEach kws X.env)).filterMap (·.1) = ks := by intro _; rfl)
    (he : starEach (e :: es) X.env = (false, eval e X.env) :: starEach es X.env := by rfl) (hpl : ∀ pos, ((backTo pos (starEach (e :: es) X.env)).any (·.1) || (backToKw pos (keywordEach kws X.env)).any (·.1.isNone)) = false := by intro _; rfl) : PC X (e :: es) kws ks t tk :=
  ⟨fun pos f pins s σ H Qv R I hk h q => PySem.W.callWith_KW (h₀ := X.base) I.ok.mod.kin hk (hall pos) (thn (ha.run pos pins s σ H _ I h) fun us s1 ⟨vs, H1, I1, r, q1⟩ => thn (hkw.run pos pins s1 σ H1 _ I1 q1) fun ws s2 ⟨zs, H2, I2, rz, q2⟩ => ⟨I2.kIn, by
    rw [hks pos]
    exact q us ws s2 vs zs H2 I2 r rz q2⟩) (hpl pos) he⟩
end
/-- .. by data -/
def SC (X : Cx) (T : List (Addr × Str)) (F : Fr) (W : WX) (m mk : M (List D)) (es : List Expr) (kws : List Keyword) (ks : List Str) : Prop := ∃ t tk, PC X es kws ks t tk ∧ (∀ σ H Q, LiftR (gX X T) F W (rpL (gX X T)) m σ H Q → t σ H Q) ∧ ∀ σ H Q, LiftR (gX X T) F W (rpL (gX X T)) mk σ H Q → tk σ H Q
def SK (X : Cx) (T : List (Addr × Str)) (F : Fr) (W : WX) (m : M (List D)) (kws : List Keyword) : Prop := PK X kws (LiftR (gX X T) F W (rpL (gX X T)) m)
theorem PK.imp {X : Cx} {e : List Keyword} {t t' : TA} (h : PK X e t) (i : ∀ σ H Q, t' σ H Q → t σ H Q) : PK X e t' := ⟨fun pos pins s σ H Q I q => h.run pos pins s σ H Q I (i σ H Q q)⟩
section
variable {X : Cx} {T : List (Addr × Str)} {F : Fr} {W : WX} {e : Expr} {es : List Expr} {pos p kpos : Pos} {ma : M D} {ml mk : M (List D)} {k : Nat} {x : Str} {ps ks : List Str} {m : MF} {params : Arguments} {body : List Stmt} {scope : Scope} {kws : List Keyword} {nm : Option Str}
theorem sk_nil : SK X T F W mNil [] := PK.imp pk_nil fun σ H Q ⟨φ, ow, S, env, R, q⟩ => PostR.here (a := ([] : List D)) q R .nil
theorem sk_cons (ha : SE X T F W ma e) (hr : SK X T F W mk kws) : SK X T F W (mCons ma mk) (⟨nm, e, kpos⟩ :: kws) :=
  PK.imp (pk_cons ha hr) fun σ H Q ⟨φ, ow, S, env, R, q⟩ => lift_bnd R q fun d S1 φ1 H1 v R1 s1 p1 r1 q1 => lift_bnd R1 q1 fun ds S2 φ2 H2 vs R2 s2 p2 r2 q2 => PostR.here (a := d :: ds) q2 R2 (.cons (r1.st s2 p2) r2)
theorem lift_nil (σ : L2.St) (H : Hp) (Q : List V → Hp → Prop) (h : LiftR (gX X T) F W (rpL (gX X T)) mNil σ H Q) : tNil σ H Q := by
  obtain ⟨φ, ow, S, env, R, q⟩ := h
  exact PostR.here (a := ([] : List D)) q R .nil
theorem sc_none : SC X T F W mNil mNil [] [] [] := ⟨_, _, pc_none, lift_nil, lift_nil⟩
theorem sc_pos (ha : SA X T F W ml (e :: es)) (he : starEach (e :: es) X.env = (false, eval e X.env) :: starEach es X.env := by rfl) (hpl : ∀ pos, (backTo pos (starEach es X.env)).any (·.1) = false := by intro _; rfl) : SC X T F W ml mNil (e :: es) [] [] := ⟨_, _, pc_pos ha he hpl, fun _ _ _ z => z, lift_nil⟩
theorem sc_kw (hk : SK X T F W mk kws) (hall : ∀ pos, (backToKw pos (keywordEach kws X.env)).all (·.1.isSome) = true := by intro _; rfl) (hks : ∀ pos, (backToKw pos (keywordEach kws X.env)).filterMap (·.1) = ks := by intro _; rfl)
    (hpl : ∀ pos, ((backTo pos (starEach [] X.env)).any (·.1) || (backToKw pos (keywordEach kws X.env)).any (·.1.isNone)) = false := by intro _; rfl) : SC X T F W mNil mk [] kws ks := ⟨_, _, pc_kw hk hall hks hpl, lift_nil, fun _ _ _ z => z⟩
theorem sc_mix (ha : SA X T F W ml (e :: es)) (hk : SK X T F W mk kws) (hall : ∀ pos, (backToKw pos (keywordEach kws X.env)).all (·.1.isSome) = true := by intro _; rfl) (hks : ∀ pos, (backToKw pos (keywordEach kws X.env)).filterMap (·.1) = ks := by intro _; rfl)
    (he : starEach (e :: es) X.env = (false, eval e X.env) :: starEach es X.env := by rfl) (hpl : ∀ pos, ((backTo pos (starEach (e :: es) X.env)).any (·.1) || (backToKw pos (keywordEach kws X.env)).any (·.1.isNone)) = false := by intro _; rfl) : SC X T F W ml mk (e :: es) kws ks :=
  ⟨_, _, pc_mix ha hk hall hks he hpl, fun _ _ _ z => z, fun _ _ _ z => z⟩
/-- f(..) -/
def mCall (np nk : Nat) (ix : List Nat) (n : Nat) (m : MF) (ml mk : M (List D)) : M D := fun env S => (ml env S).bnd fun ds S1 => (mk env S1).bnd fun es S2 => if ds.length = np ∧ es.length = nk ∧ (pick ix (ds ++ es)).length = n then m (pick ix (ds ++ es)) S2 else .stuck
theorem pick_append_length {α β : Type} {l : List α} {l' : List β} (h : l.length = l'.length) : ∀ ix : List Nat, (pick ix l).length = (pick ix l').length
  | [] => rfl
  | i :: ix => by
    unfold pick
    by_cases hi : i < l.length
    · rw [List.filterMap_cons, List.filterMap_cons, List.getElem?_eq_getElem hi, List.getElem?_eq_getElem (h ▸ hi)]
      exact congrArg Nat.succ (pick_append_length h ix)
    · rw [List.filterMap_cons, List.filterMap_cons, List.getElem?_eq_none (by omega), List.getElem?_eq_none (by omega)]
      exact pick_append_length h ix
/-- behind the callee's name -/
theorem run_cal {np n : Nat} {ix : List Nat} {f : Addr} {pins : List (Addr × Obj)} {s : Shared} {σ : L2.St} {H : Hp} {Q : VK} (c : CalN X.prog X.w X.K X.mg X.base T k np ks ix f n m) (hr : Room k X.A) (tk : Takes X W) (ha : SC X T F W ml mk es kws ks) (I : Inv X pins σ H s)
    (h : LiftR (gX X T) F W (rpD (gX X T)) (mCall np ks.length ix n m ml mk) σ H Q) :
    wpAny (model X.prog X.w) X.A (callWith pos (.ref f) [] (backTo pos (starEach es X.env)) (backToKw pos (keywordEach kws X.env))) (EP X pins σ Q) X.xe s := by
  obtain ⟨fd, ps, hl, Fo, hkp, hb⟩ := c.ex
  obtain ⟨t, tk', C, h1, h2⟩ := ha
  obtain ⟨φ, ow, S, env, R, q⟩ := h
  refine C.run pos f pins s σ H _ (fun vs zs H2 => vs.length = np ∧ zs.length = ks.length ∧ spOf (gX X T) n m (pick ix (vs ++ zs)) H2 Q (WE W σ)) I hkp (h1 _ _ _ (lift_bnd R q fun ds S1 φ1 H1 vs R1 s1 p1 r1 q1 => h2 _ _ _ (lift_bnd R1 q1 fun es S2 φ2 H2 zs R2 s2 p2 r2 q2 => ?_))) fun us ws s2 vs zs H2 I2 rv rz ⟨l1, l2, hs⟩ => ?_
  · split at q2
    · rename_i hz
      obtain ⟨z1, z2, z3⟩ := hz
      have r12 := (RepL.st r1 s2 p2).app r2
      exact ⟨(RepL.length r1).trans z1, (RepL.length r2).trans z2, spOf_call R2 ((RepL.length (r12.pick ix)).trans z3) (r12.pick ix) q2⟩
    · exact q2.elim
  · have rr : Vals (pick ix (vs ++ zs)) (pick ix (us ++ ws)) := Vals.pick (rv.append rz) ix
    refine wpAny_call (codeAny_mono (Fo.run X.A X.stack s2 H2 ⟨us, ks.zip ws⟩ (pick ix (us ++ ws)) (pick ix (vs ++ zs)) Q (WE W σ) hr I2.env0 (hb s2 us ws I2.kIn (rv.length.symm.trans l1) (rz.length.symm.trans l2)) rr hs) fun r s' hq => ?_)
    cases r with
    | error e => exact passAt tk σ pins H2 s2 e s' I2 hq
    | ok fl =>
      cases fl with
      | ret u => exact I2.after hq
      | next => exact False.elim hq
      | brk => exact False.elim hq
      | cont => exact False.elim hq
theorem se_callF {np n : Nat} {ix : List Nat} (c : ∃ f, X.mg x = some (.ref f) ∧ CalN X.prog X.w X.K X.mg X.base T k np ks ix f n m) (hr : Room k X.A) (tk : Takes X W) (hg : Gl X x) (ha : SC X T F W ml mk es kws ks) (hdb : (x == ("__debug__" : Str)) = false := by decide) :
    SE X T F W (mCall np ks.length ix n m ml mk) (.Call (.Name x p) es kws pos) := by
  obtain ⟨f, hm, c⟩ := c
  refine ⟨fun pins s σ H Q I h => ?_⟩
  refine wpAny_Call_Name_kw (ld_glob I hg hm ?_ hdb)
  exact run_cal c hr tk ha I h
/-- .. by a name that holds one of some defs -/
def mCallV (i : Nat) (np nk : Nat) (ix : List Nat) (tab : Str → Option (Nat × MF)) (ml mk : M (List D)) : M D := fun env S => match env[i]? with
  | some (.val (.glo x)) => match tab x with
    | some (n, m) => mCall np nk ix n m ml mk env S
    | none => .stuck
  | _ => .stuck
theorem se_callV (i : Nat) {np : Nat} {ix : List Nat} {tab : Str → Option (Nat × MF)} (c : ∀ y n m, tab y = some (n, m) → ∃ f, X.mg y = some (.ref f) ∧ CalN X.prog X.w X.K X.mg X.base T k np ks ix f n m) (hr : Room k X.A) (tk : Takes X W) (ha : SC X T F W ml mk es kws ks)
    (hN : X.N[i]? = some x := by rfl) (hv : Vis X.env.scope x := by first | exact Or.inl rfl | exact Or.inr (Or.inl rfl) | exact Or.inr (Or.inr rfl)) (hd : (x == ("__debug__" : Str)) = false := by decide)
    (hcd : (x == ("__classdict__" : Str)) = false := by decide) : SE X T F W (mCallV i np ks.length ix tab ml mk) (.Call (.Name x p) es kws pos) := by
  refine ⟨fun pins s σ H Q I h => ?_⟩
  obtain ⟨φ, ow, S, env, R, q⟩ := h
  unfold mCallV at q
  split at q
  · rename_i y he
    split at q
    · rename_i n m ht
      obtain ⟨f, hm, cc⟩ := c y n m ht
      obtain ⟨v, h1, h2⟩ := R.slot i _ he
      have hv' : v = .ref f := by
        cases h2 with
        | glo g1 g2 =>
          have g1 : X.mg y = _ := g1
          rw [hm] at g1
          cases g1
          cases v <;> first | (cases g2; rfl) | (obtain ⟨_, z⟩ := g2; cases z) | (cases g2; done) | exact absurd g2 (by intro z; cases z)
      subst hv'
      refine wpAny_Call_Name_kw (thn ((pe_var (pos := p) hN hv hd hcd).run pins s σ H (fun v H1 => v = .ref f ∧ H1 = H) I ⟨.ref f, h1, rfl, rfl⟩) fun u s1 ⟨v, H1, I1, r1, q1⟩ => ?_)
      obtain ⟨rfl, rfl⟩ := q1
      cases r1
      exact run_cal cc hr tk ha I1 ⟨φ, ow, S, env, R, q⟩
    · exact q.elim
  · exact q.elim
end
end DL
set_option Elab.async false
set_option linter.all false
set_option maxRecDepth 100000
set_option maxHeartbeats 2000000
/-! DX1: an own exception whose own maker hands its one value up and keeps it -/
namespace PySem
namespace DXE
open PySem.W PySem.Calls PyProof.Rows PySem.HandSPX
/-- the two rows of the maker -/
def supB (fl : Str) (p0 p1 p2 p3 p4 p5 q1 q2 q3 q4 : Pos) : List Stmt :=
  [.Expr (.Call (.Attribute (.Call (.Name "super" p0) [] [] p1) "__init__" p2) [.Name fl p3] [] p4) p5, .Assign [.Attribute (.Name "self" q1) fl q2] (.Name fl q3) q4]
structure SupTxt (P : Program) (K : Frag) (C fI cc cda : Addr) (fl : Str) : Prop where
  cls : ∃ nm q N bs bm sn sub ab col dd k0 k1 k2 k3 k5, K.lookup C = some (excClassObj nm q C N bs bm true sn sub ab col dd k0 k1 k2 k3 k5 "ValueError.__new__") ∧ refsVE bm = true
  sa : findIn K (.ref C) "__setattr__" = some (some (.builtin "object.__setattr__"))
  noN : findIn K (.ref C) fl = some none
  iC : findIn K (.ref C) "__init__" = some (some (.ref fI))
  tC : typeIn K (.ref fI) = some (.type "function")
  kC : keepIn K (.ref C) = true
  exC : subIn K (.ref C) (.type "BaseException") = some true
  tyC : typeIn K (.ref C) = some (.type "type")
  fn : ∃ (oc : Value) (od : Option Addr) (qual : Str) (a1 a2 : Arg) (scope : Scope) (dV kV doc pm : Value) (an : Option Addr) (ct : Value) (osl : Array (Option Value)) (p0 p1 p2 p3 p4 p5 q1 q2 q3 q4 : Pos),
    (∀ L f : Addr, ∃ pl : Sem Bool, eval (.Call (.Attribute (.Call (.Name "super" p0) [] [] p1) "__init__" p2) [.Name fl p3] [] p4) (ksEnv qual scope L f (.ref cda) cc) = (do
      let ov ← attributeBase (.Call (.Name "super" p0) [] [] p1) "__init__" (ksEnv qual scope L f (.ref cda) cc) (eval (.Call (.Name "super" p0) [] [] p1) (ksEnv qual scope L f (.ref cda) cc))
      standAt p2.atName
      let (f', first) ← holding [ov] (getMethod ov "__init__" pl)
      callWith p4 f' first (backTo p4 (starEach [.Name fl p3] (ksEnv qual scope L f (.ref cda) cc))) [])) ∧
    K.lookup fI = some ⟨oc, od, .func (ksFn "__init__" qual { posonlyargs := [], args := [a1, a2], vararg := none, kwonlyargs := [], kw_defaults := [], kwarg := none, defaults := [] } (supB fl p0 p1 p2 p3 p4 p5 q1 q2 q3 q4) scope .none kV doc pm an (.ref cda) ct cc), osl⟩ ∧ codeIn K (.ref cda) qual = true ∧
    a1.arg = "self" ∧ a2.arg = fl ∧ scope.kind = .function ∧ scope.isCoroutine = false ∧ scope.isGenerator = false ∧ scope.names.lookup ("super" : Str) = some .globalImplicit ∧ scope.names.lookup ("__class__" : Str) = some .free ∧
      scope.names.lookup ("self" : Str) = some .local ∧ scope.names.lookup fl = some .local ∧ (∀ x ∈ scope.names, x.2 ≠ .cell) ∧
      ∀ (x v : Value), bindArgs (ksFn "__init__" qual { posonlyargs := [], args := [a1, a2], vararg := none, kwonlyargs := [], kw_defaults := [], kwarg := none, defaults := [] } (supB fl p0 p1 p2 p3 p4 p5 q1 q2 q3 q4) scope .none kV doc pm an (.ref cda) ct cc) ⟨[x, v], []⟩ = pure [(("self" : Str), x), (fl, v)]
  file : ∃ (ccl : Value) (cdd : Option Addr) (vs : Array Value) (ccs : Array (Option Value)) (file : Str) (tf : Tok), K.lookup cda = some ⟨ccl, cdd, .fields vs, ccs⟩ ∧ vs[2]? = some (.str file tf) ∧ ((P.main.file : Str) == file) = true
  cell : ∃ cl cld csl, K.lookup cc = some ⟨cl, cld, .cell (some (.ref C)), csl⟩
  sub : mroIn K C (.ref C) = some true
  sup : nsIn K mainGlobals "super" = some none
  tp : nsIn K cStatics "thirdparty.any" = some none
  along : ks_superIn K C C "__init__" = some (some (.builtin "ValueError.__init__"))
  hB : subIn K (.ref C) (.type "ValueError") = some true
  top : (P.main.scope.names.lookup ("super" : Str)).isSome = false
  fs : (fl == ("self" : Str)) = false
  fc : (fl == ("__classdict__" : Str)) = false
  fd : (fl == ("__debug__" : Str)) = false
section
variable {prog : Program} {w : World} {A : Around} {E : Value → Shared → Prop} {R : Result → Shared → Prop} {K : Frag} {mg : Str → Option Value} {C fI cc cda : Addr} {fl : Str} {g : Array GenState} {d : Drawn} {t : Nat} {os : OsState}
theorem wp_ld {M : Model} {s : Shared} {env : Env} {m : Str → Option Value} {x : Str} {pos : Pos} {v : Value} {Q : Value → Shared → Prop} (hn : s.heap.Ns env.locals m) (hv : m x = some v) (hk : env.scope.kind = .function) (hl : env.kindOf x = some .local) (hd : (x == ("__debug__" : Str)) = false) (h : Q v s) :
    wpAny M A (eval (.Name x pos) env) Q E s := wpAny_Name (wpAny_loadName_local hk hl hn hv h) hd
/-- the method-wrapper called: the exception's args are laid anew -/
theorem call_mw {h : Heap} {u x t0 : Addr} {rest : List Value} {Q : Value → Shared → Prop} {nm q : Str} {N : Addr} {bs bm : List Value} {sn : List Str} {sub : List Value} {ab : Bool} {col : Option Bool} {dd : Option Addr} {k0 k1 k2 k3 k5 : Option Value}
    (hC : h.get? C = some (excClassObj nm q C N bs bm true sn sub ab col dd k0 k1 k2 k3 k5 "ValueError.__new__")) (he : h.get? x = some (excO C t0)) (hu : h.get? u = some (kxs_mw "ValueError.__init__" x)) (hrest : rest.length ≤ sizeLine)
    (hq : ∀ h' t1, (∀ b o, b ≠ x → h.get? b = some o → h'.get? b = some o) → h'.get? x = some (excO C t1) → Q .none ⟨h', g, d, t, os⟩) : wpAny (model prog w) A (call (.ref u) rest) Q E ⟨h, g, d, t, os⟩ := by
  refine wpAny_call (codeAny_of_tree ?_)
  show wpAny _ A.in1 (callAny (.ref u) ⟨rest, []⟩) _ _ _
  simp only [callAny]
  refine wpAny_bind (wpAny_load hu ?_)
  simp only [kxs_mw, show (Value.type "method-wrapper" == Value.type "method" || Value.type "method-wrapper" == Value.type "builtin_function_or_method" || Value.type "method-wrapper" == Value.type "method-wrapper") = true by decide, if_true]
  refine KFB.if_so (by decide) ?_
  refine wpAny_bind (check_bound_init F.excBase_ValueError.toExcCallFacts hC he rfl ?_)
  refine wpAny_bind (wpAny_pure (wpAny_pure ?_))
  refine ⟨plainId_quiet F.excBase_ValueError.init.plain _, codeAny_builtin F.excBase_ValueError.initEntry ?_⟩
  exact exc_init_tree (cls := .ref C) (t0 := t0) (dv := none) (c2 := .none) (c3 := .none) (b4 := .bool false) he hrest fun h' k e' _ => hq h' _ k e'
/-- the maker run at a fresh exception x, hb: the heap ahead of it -/
theorem sup_init (T : SupTxt prog K C fI cc cda fl) {hb hp : Heap} {mb : Str → Option Value} {x t0 : Addr} {v : Value} (X₀ : K.In hb) (hg : hb.Ns mainGlobals mg) (hbl : hb.Ns builtinsNs mb) (hmb : ∀ x : Str, x ≠ "__name__" → mb x = bootBuiltins x)
    (k₀ : ∀ b o, hb.get? b = some o → hp.get? b = some o) (hnx : hb.get? x = none) (hx : hp.get? x = some (excO C t0)) (hlim : hp.NoLimit) (hroom : A.depth < recursionLimit)
    (hq : ∀ h' tk dx t1, (∀ b o, hb.get? b = some o → h'.get? b = some o) → h'.get? x = some { cls := .ref C, dict := some dx, data := .fields #[.ref t1, .none, .none, .none, .bool false, .none] } → hp.objs.size ≤ dx → dx ≠ x →
      h'.Ns1 dx (fun y => if y = fl then some v else none) → R (.ok (.ret .none)) ⟨h', g, d, tk, os⟩) :
    codeAny (model prog w) A (.call (.ref fI) ⟨[.ref x, v], []⟩) R ⟨hp, g, d, t, os⟩ := by
  obtain ⟨oc, od, qual, a1, a2, scope, dV, kV, doc, pm, an, ct, osl, p0, p1, p2, p3, p4, p5, q1, q2, q3, q4, heq, lk, hcd, ha1, ha2, hkind, hco, hgen, hsup, hcl, hself, hfl, hnc, hbd⟩ := T.fn
  obtain ⟨nm, q, N, bs, bm, sn, sub, ab, col, dd, k0, k1, k2, k3, k5, hC, hbm⟩ := T.cls
  obtain ⟨ccl, cdd, vs, ccs, file, tf, lkc, hvs, hfile⟩ := T.file
  obtain ⟨cl, cld, csl, lkl⟩ := T.cell
  obtain ⟨aa1, aa2, aa3⟩ := a1
  obtain ⟨ab1, ab2, ab3⟩ := a2
  subst ha1 ha2
  have hcl' : clsIn K C = some { name := nm, bases := bs, mro := .ref C :: bm, ns := N, qualname := q, hasDict := true, slotNames := sn, subclasses := sub, abstract := ab, collection := col, hasDel := false } := by unfold clsIn; rw [hC] <;> rfl
  have X : K.In hp := X₀.keeps k₀
  refine ks_codeAny_call_defAt (binds := [("self", .ref x), (ab1, v)]) hroom (X _ _ lk) rfl hlim (codeRec_of X hcd) rfl (BindsTo.of_eq (hbd _ _)) hnc (fun y hy => ?_) (fun h₁ hns kk => ?_) hco hgen hkind
  · rcases List.mem_cons.mp hy with e | hy
    · rw [e]; exact hself
    · rcases List.mem_cons.mp hy with e | hy
      · rw [e]; exact hfl
      · cases hy
  show wpAt _ _ _ (execs _ (ksEnv qual scope hp.objs.size fI (.ref cda) cc)) _ _ _
  have X₁ : K.In h₁ := X.keeps kk
  have hx₁ := kk _ _ hx
  have hb₁ : ∀ b o, hb.get? b = some o → h₁.get? b = some o := fun b o e => kk _ _ (k₀ _ _ e)
  have hxC : x ≠ C := fun z => by
    have := X₀ _ _ hC
    rw [← z, hnx] at this
    cases this
  have vself : (fun y : Str => ([(("self" : Str), Value.ref x), (ab1, v)] : List (Str × Value)).reverse.lookup y) ("self" : Str) = some (.ref x) := by
    show ([(ab1, v), (("self" : Str), Value.ref x)] : List (Str × Value)).lookup ("self" : Str) = _
    have e : (("self" : Str) == ab1) = false := by
      have := T.fs
      rw [beq_eq_false_iff_ne] at this ⊢
      exact fun z => this z.symm
    simp [List.lookup, e]
  have vfl : (fun y : Str => ([(("self" : Str), Value.ref x), (ab1, v)] : List (Str × Value)).reverse.lookup y) ab1 = some v := by
    show ([(ab1, v), (("self" : Str), Value.ref x)] : List (Str × Value)).lookup ab1 = _
    simp [List.lookup]
  obtain ⟨pl, heq⟩ := heq hp.objs.size fI
  have hint : interactive (ksEnv qual scope hp.objs.size fI (.ref cda) cc) = false := by
    unfold interactive
    simp [hkind]
  refine ks_wpAt_execs_cons (ks_wpAt_Expr_any (hi := hint) (ks_wpAt_MethodCall (he := heq) ?_))
  refine ks_wpAt_super_base (env := ksEnv qual scope hp.objs.size fI (.ref cda) cc) hsup hcl rfl rfl (X₁ _ _ lk) rfl rfl rfl (X₁ _ _ lkc) rfl hvs hfile T.top ?_
  refine ks_loadName_global hkind hsup (loadGlobal_builtin (env := ksEnv qual scope hp.objs.size fI (.ref cda) cc) (hg.keeps hb₁) (mg_none_of X₀ hg T.sup) (hbl.keeps hb₁) ((hmb _ (by decide)).trans PyProof.Rows.Boot.super) ⟨rfl, ?_⟩)
  refine wpAny_loadName_free hkind hcl rfl ⟨_, X₁ _ _ lkl, rfl⟩ ?_
  refine wpAny_loadName_local hkind hself hns vself ?_
  refine ks_wpAny_isType_cls (X₁ _ _ hC) rfl ⟨rfl, ?_⟩
  refine ks_wpAny_call_super (X₁ _ _ hC) rfl hx₁ rfl (fun c e => by cases e) (looks_mroIn X₁ T.sub) (fun h₂ hso k₂ => ?_)
  have X₂ : K.In h₂ := X₁.keeps k₂
  have I₂ : InstAt h₂ x (excO C t0) C none := ⟨k₂ _ _ hx₁, rfl, rfl, trivial⟩
  have hal : alongIn K "__init__" (((Value.ref C :: bm).dropWhile (· != .ref C)).drop 1) = some (some (.builtin "ValueError.__init__")) := by
    have := T.along
    unfold ks_superIn at this
    rw [hcl'] at this
    exact this
  refine kxs_getMethod kxs_ValueError hso (looks_opaque X₂ T.tp) (l₀ := Value.ref C :: bm) (fun A Q E s k q => wpAny_bind ((looks_clsIn X₂ hcl') A _ E s k (wpAny_pure q))) rfl X₂ hal (I₂.type.andThen (looks_subIn X₂ T.hB)) hxC rfl ?_
  have k₃ : ∀ b o, h₂.get? b = some o → (h₂.push (kxs_mw "ValueError.__init__" x)).get? b = some o := fun b o e => Heap.get?_push_of_some _ e
  have X₃ := X₂.keeps k₃
  have hu : (h₂.push (kxs_mw "ValueError.__init__" x)).get? h₂.objs.size = some (kxs_mw "ValueError.__init__" x) := Heap.get?_push_at rfl rfl
  have hns₃ := (hns.keeps k₂).keeps k₃
  refine kxs_callWith (i := "ValueError.__init__") (x := x) rfl (evalArgs_plain (spliced_cons ?_))
  refine wp_ld hns₃ vfl hkind hfl T.fd (spliced_nil ⟨hu, ?_⟩)
  refine call_mw (X₃ _ _ hC) (k₃ _ _ (k₂ _ _ hx₁)) hu (by rw [sizeLine_eq]; show 1 ≤ 16777216; decide) fun h₄ t1 k₄ hx₄ => ?_
  have lt : hp.objs.size ≠ x := Nat.ne_of_gt (Heap.lt_size hx)
  have hb₄ : ∀ b o, hb.get? b = some o → h₄.get? b = some o := fun b o e => k₄ b o (fun z => by rw [z, hnx] at e; cases e) (k₃ _ _ (k₂ _ _ (hb₁ _ _ e)))
  have X₄ : K.In h₄ := X₀.keeps hb₄
  have hns₄ : h₄.Ns hp.objs.size (fun y => ([(("self" : Str), Value.ref x), (ab1, v)] : List (Str × Value)).reverse.lookup y) := by
    obtain ⟨oL, es, ep, hL, r⟩ := hns₃
    exact ⟨oL, es, ep, k₄ _ _ lt hL, r⟩
  refine ks_wpAt_execs_cons (wpAt_of_wpAny (plainObj_wpAny_Assign_Attribute ?_))
  refine wp_ld hns₄ vfl hkind hfl T.fd (wp_ld hns₄ vself hkind hself (by decide) ?_)
  refine set_plain X₄ (ox := excO C t1) (od := none) ⟨hx₄, rfl, rfl, trivial⟩ T.sa ?_
  refine exc_osa X₄ hx₄ hcl' (show refsVE (.ref C :: bm) = true from hbm) rfl T.noN (fun h₅ tk₅ dx k₅ dn dne hx₅ hn₅ => ?_)
  refine wpAt_of_wpAny (wpAny_execs_nil (hq h₅ tk₅ dx t1 (fun b o e => k₅ b o (fun z => by rw [z, hnx] at e; cases e) (hb₄ b o e)) hx₅ ?_ dne hn₅))
  have z : hp.objs.size < h₄.objs.size := hns₄.lt
  exact Nat.le_trans (Nat.le_of_lt z) dn
/-- a made one -/
structure SupMade (h h' : Heap) (e C dx : Addr) (fl : Str) (v : Value) : Prop where
  keep : ∀ b o, h.get? b = some o → h'.get? b = some o
  new : h.get? e = none
  obj : ∃ oe vs, h'.get? e = some oe ∧ oe.cls = .ref C ∧ oe.dict = some dx ∧ oe.data = .fields vs ∧ vs[1]? = some .none
  dbig : h.objs.size ≤ dx
  dne : dx ≠ e
  ns : h'.Ns1 dx (fun y => if y = fl then some v else none)
theorem sup_made (T : SupTxt prog K C fI cc cda fl) {hp : Heap} {mb : Str → Option Value} {v : Value} (X : K.In hp) (hg : hp.Ns mainGlobals mg) (hbl : hp.Ns builtinsNs mb) (hmb : ∀ x : Str, x ≠ "__name__" → mb x = bootBuiltins x) (hlim : hp.NoLimit) (hroom : A.depth + 1 < recursionLimit)
    (hq : ∀ h' tk e dx, SupMade hp h' e C dx fl v → R (.ok (.ret (.ref e))) ⟨h', g, d, tk, os⟩) : codeAny (model prog w) A (.call (.ref C) ⟨[v], []⟩) R ⟨hp, g, d, t, os⟩ := by
  obtain ⟨nm, q, N, bs, bm, sn, sub, ab, col, dd, k0, k1, k2, k3, k5, hC, hbm⟩ := T.cls
  have k : ∀ b o, hp.get? b = some o → ((hp.push (kdv_tup [v])).push (excO C hp.objs.size)).get? b = some o := fun b o e => Heap.get?_push_of_some _ (Heap.get?_push_of_some _ e)
  have hget : ((hp.push (kdv_tup [v])).push (excO C hp.objs.size)).get? (hp.objs.size + 1) = some (excO C hp.objs.size) := by heap_get
  have hnx : hp.get? (hp.objs.size + 1) = none := by
    cases e : hp.get? (hp.objs.size + 1) with
    | none => rfl
    | some o => exact absurd (Nat.lt_of_succ_lt (Heap.lt_size e)) (Nat.lt_irrefl _)
  refine call_own F.excBase_ValueError (fun X => refsVE_contains X bm hbm) (X _ _ hC) (looks_findIn X T.iC) (fun self => bind_fn X self T.tC) (by rw [sizeLine_eq]; show 1 ≤ 16777216; decide) ?_
  refine sup_init (mg := mg) T X hg hbl hmb k hnx hget (hlim.keeps k) ?_ fun h' tk' dx t1 k' hx dn dne hns => ?_
  · show A.depth + 1 < recursionLimit
    exact hroom
  · exact ⟨rfl, hq h' tk' (hp.objs.size + 1) dx ⟨k', hnx, ⟨_, _, hx, rfl, rfl, rfl, rfl⟩, Nat.le_trans (by rw [Heap.size_push, Heap.size_push]; omega) dn, dne, hns⟩⟩
end
end DXE
end PySem
namespace L2
open PySem PySem.Spec PyProof.Rows
theorem relO_sup {v : V} {v' : Value} {fl : Str} (r : RelV v v') (f : Str) : RelO (List.lookup f [(fl, v)]) (if f = fl then some v' else none) := by
  by_cases hw : f = fl
  · subst hw
    rw [if_pos rfl]
    have q : List.lookup f [(f, v)] = some v := by simp [List.lookup]
    rw [q]
    exact r
  · rw [if_neg hw]
    have qw : (f == fl) = false := by simpa using hw
    have q2 : List.lookup f [(fl, v)] = none := by simp [List.lookup, qw]
    rw [q2]
    trivial
def tMkSup (C : Addr) (fl : Str) (ta : TA) : L2.St → Hp → XK → Prop := fun σ H Q => ta σ H fun vs H1 => ∃ v, vs = [v] ∧ ∀ d, H1 d = none → Q (.ref C) (some d) (upd H1 d (.xd [(fl, v)]))
theorem pmk_sup {X : Cx} {C fI cc cda : Addr} {fl x : Str} {a : Expr} {ta : TA} {p pos : Pos} {k : Nat} (T : PySem.DXE.SupTxt X.prog X.K C fI cc cda fl) (hr : Room k X.A) (gC : X.mg x = some (.ref C)) (ha : PA X [a] ta) (hg : Gl X x) (hdb : (x == ("__debug__" : Str)) = false := by decide)
    (he : starEach (a :: []) X.env = (false, eval a X.env) :: starEach [] X.env := by rfl) (hpl : (backTo pos (starEach [] X.env)).any (·.1) = false := by rfl) : PMk X (.Call (.Name x p) [a] [] pos) (tMkSup C fl ta) := by
  intro pins s σ H Q I h
  refine wpAny_Call_Name_kw (ld_glob I hg gC ?_ hdb)
  refine PySem.W.callWith_K (h₀ := X.base) I.ok.mod.kin T.kC (thn (ha.run pos pins s σ H _ I h) fun us s1 hh => ?_) he hpl
  obtain ⟨vs, H1, I1, r1, v, ev, q1⟩ := hh
  subst ev
  refine ⟨I1.kIn, ?_⟩
  cases r1 with
  | cons rv rn =>
    rename_i v' us'
    cases rn
    show wpAny _ _ (call (.ref C) [v']) _ _ _
    have hlim := I1.nolimit
    have hgl := I1.mod.glob.keeps I1.bk
    obtain ⟨mb, hbl, hmb⟩ := I1.mod.blt
    have hbl := hbl.keeps I1.bk
    obtain ⟨hp, g, dr, tk, os⟩ := s1
    refine wpAny_call (PySem.DXE.sup_made T I1.kIn hgl hbl hmb hlim (by have := hr.dp; omega) fun h' tk' e d M => ?_)
    show MkP X pins σ Q (.ref e) ⟨h', g, dr, tk', os⟩
    obtain ⟨oe, fv, hoe, hc, hd, hdat, h1⟩ := M.obj
    have hns := M.ns
    obtain ⟨G', g1, g2⟩ := restrict h' fun b => decide (b ≠ e)
    have gk : ∀ b, b ≠ e → G'.get? b = h'.get? b := fun b hb => g1 b (decide_eq_true hb)
    have ge : G'.get? e = none := g2 e (by simp)
    have old : ∀ b o, hp.get? b = some o → G'.get? b = some o := fun b o q => (gk b (fun z => by
      have := M.new
      rw [← z, q] at this
      cases this)).trans (M.keep b o q)
    have ob : ObjOk X.prog X.w (upd H1 d (.xd [(fl, v)])) G' d (.xd [(fl, v)]) :=
      ⟨_, hns.at (fun o q => (gk d M.dne).trans q), fun f => relO_sup rv f⟩
    have J : Inv X pins σ (upd H1 d (.xd [(fl, v)])) ⟨G', g, dr, tk', os⟩ := I1.laid (t' := tk') old M.dbig ob
    refine ⟨e, oe, fv, ⟨G', g, dr, tk', os⟩, _, .ref C, some d, rfl, J, fun b o q => ?_, ge, hoe, ⟨hc, hd⟩, hdat, h1, ?_, rfl, I1.bare, raises_own T.exC T.tyC, q1 d (I1.hok.fresh M.dbig)⟩
    · by_cases hb : b = e
      · have q' : G'.get? b = some o := q
        rw [hb, ge] at q'; cases q'
      · exact (gk b hb).symm.trans q
    · rw [upd_ne (Ne.symm M.dne)]
      exact I1.hok.gone M.new
end L2
set_option Elab.async false
set_option linter.all false
set_option maxRecDepth 100000
/-! DX2: raise, try by data -/
namespace DL
open PySem PySem.Spec PyProof.Rows L2
section
variable {X : Cx} {T : List (Addr × Str)} {F : Fr} {W : WX} {e a b : Expr} {es : List Expr} {pos p : Pos} {ma mb : M D} {ml : M (List D)} {x fl : Str} {C fI cc cda : Addr} {k : Nat}
/-- raise x(e), x an own exception that keeps its value under fl -/
def mRaise (x fl : Str) (ma : M D) : MS := fun e S => (ma e S).bndS e fun d S1 => .exn x (some (fl, d)) e S1
theorem ss_raise {pos2 : Pos} (hc : X.calm = true) (tk : Takes X W) (T0 : PySem.DXE.SupTxt X.prog X.K C fI cc cda fl) (hr : Room k X.A) (gC : X.mg x = some (.ref C)) (hg : Gl X x) (ha : SE X T F W ma a) (hdb : (x == ("__debug__" : Str)) = false := by decide)
    (he : starEach (a :: []) X.env = (false, eval a X.env) :: starEach [] X.env := by rfl) (hpl : (backTo pos (starEach [] X.env)).any (·.1) = false := by rfl) : SS X T F W (mRaise x fl ma) (.Raise (some (.Call (.Name x p) [a] [] pos)) none pos2) :=
  PS.imp (ps_raise hc tk (pmk_sup T0 hr gC (pa_cons ha pa_nil he) hg hdb he hpl)) fun D σ H ⟨φ, ow, S, env, R, q⟩ => lift_bS R q fun d S1 φ1 H1 v R1 s1 p1 r1 q1 => by
    show ∃ v', [v] = [v'] ∧ _
    refine ⟨v, rfl, fun dx hdx => ?_⟩
    refine q1 φ1 ow σ _ _ _ (R1.same (same_upd hdx)) (stp_same (same_upd hdx)) (List.prefix_refl _) ⟨⟨C, gC, rfl⟩, dx, v, rfl, upd_same, R1.fresh hdx, r1.st (stp_same (same_upd hdx)) (List.prefix_refl _)⟩
/-- raise x(), x an own exception without a maker of its own -/
theorem pmk_own0 {bmB : List Value} {B newId initId : String} (F : ExcBaseFacts B newId initId bmB) (q : PySem.W.excIn X.K C bmB newId = true) (gC : X.mg x = some (.ref C)) (kC : PySem.W.keepIn X.K (.ref C) = true) (r : Raises X (.ref C)) (hg : Gl X x)
    (hdb : (x == ("__debug__" : Str)) = false := by decide) : PMk X (.Call (.Name x p) [] [] pos) (fun _ H Q => Q (.ref C) none H) := by
  intro pins s σ H Q I h
  refine wpAny_Call_Name_kw (ld_glob I hg gC ?_ hdb)
  refine PySem.W.callWith_K0 I.kIn kC ?_
  show wpAny _ _ (call (.ref C) []) _ _ _
  obtain ⟨bm, N, nm, qn, bs, hdct, sn, sub, ab, col, dd, k0, k1, k2, k3, k5, mN, hC, hN, hni, T⟩ := exc_obj I.kIn q
  refine wpAny_call_exc_subT F T hC hN hni (fun h' e hm => ?_) (Nat.zero_le _)
  exact mk_of I hm r h (I.hok.gone hm.new)
def mRaise0 (x : Str) : MS := fun e S => .exn x none e S
theorem ss_raise0 {pos2 : Pos} {bmB : List Value} {B newId initId : String} (hc : X.calm = true) (tk : Takes X W) (F0 : ExcBaseFacts B newId initId bmB) (q : PySem.W.excIn X.K C bmB newId = true) (gC : X.mg x = some (.ref C)) (kC : PySem.W.keepIn X.K (.ref C) = true) (r : Raises X (.ref C)) (hg : Gl X x)
    (hdb : (x == ("__debug__" : Str)) = false := by decide) : SS X T F W (mRaise0 x) (.Raise (some (.Call (.Name x p) [] [] pos)) none pos2) :=
  PS.imp (ps_raise hc tk (pmk_own0 F0 q gC kC r hg hdb)) fun D σ H ⟨φ, ow, S, env, R, q⟩ => q φ ow σ H _ _ R Stp.refl (List.prefix_refl _) ⟨⟨C, gC, rfl⟩, rfl⟩
end
end DL
set_option Elab.async false
set_option linter.all false
set_option maxRecDepth 100000
/-! DX3: a caught exception, try -/
namespace DL
open PySem PySem.Spec PyProof.Rows L2
/-- what a class of exceptions must say, so that its instances are asked and read rightly -/
structure XcC (K : PySem.W.Frag) (C : Addr) : Prop where
  cl : (PySem.W.clsIn K C).isSome = true
  ga : PySem.W.findIn K (.ref C) "__getattribute__" = some (some (.builtin "BaseException.__getattribute__"))
  gg : PySem.W.findIn K (.ref C) "__getattr__" = some none
  sb : PySem.W.subIn K (.ref C) (.type "BaseException") = some true
  hd : PySem.W.hasDictIn K C = true
  ca : PySem.W.findIn K (.ref C) "__class__" = some (some (.builtin "object.__class__"))
  cg : PySem.W.specialIn K (.builtin "object.__class__") "__get__" = some (some (.builtin "getset_descriptor.__get__"))
  ct : PySem.W.takesIn K (.builtin "object.__class__") = some true
  ob : PySem.W.mroIn K C (.type "object") = some true
/-- the caught exception as data -/
def exD (a dd : Addr) : Pay → D
  | none => .adr a
  | some (f, d) => .xo1 a dd f d
def exDict (dd : Addr) : Pay → Option Addr
  | none => none
  | some _ => some dd
section
variable {X : Cx} {T : List (Addr × Str)} {F : Fr} {W : WX} {a C dd : Addr} {oe : Obj} {pn : List (Addr × Obj)} {p : Pay}
/-- the exception's object as it stands in the suite -/
theorem inst_at {pins : List (Addr × Obj)} {σ : L2.St} {H : Hp} {s : Shared} {φ : List Addr} {U : Addr → Prop} {G : Gd} (I : Inv (X.suite a ((a, oe) :: pn)) pins σ H s) (hz : Zc (.ref C) (exDict dd p) oe) (hf : ∃ vs, oe.data = .fields vs)
    (r : ∃ v, Rep G φ U H v (exD a dd p)) : ∃ od, PySem.W.InstAt s.heap a oe C od := by
  obtain ⟨hget, _⟩ := I.pin (a, oe) (List.mem_append_left _ List.mem_cons_self)
  obtain ⟨vs, hv⟩ := hf
  obtain ⟨oc, od, oda, osl⟩ := oe
  obtain ⟨h1, h2⟩ := hz
  dsimp only at h1 h2 hv
  subst h1 h2 hv
  cases p with
  | none => exact ⟨none, hget, rfl, rfl, trivial⟩
  | some fd =>
    obtain ⟨v, r⟩ := r
    cases r with
    | xo1 q1 q2 q3 =>
      obtain ⟨mA, hns, hr⟩ := I.hok dd _ q1
      obtain ⟨od, ho, hl⟩ := lookIn_ns hns
      exact ⟨some od, hget, rfl, rfl, ho⟩
def mIsE (a dd : Addr) (p : Pay) (r : Option Bool) (me : M D) : M D := fun env S => (me env S).bnd fun d S1 => match d with
  | .adr b => if b = a ∧ p = none then oR (r.map .bl) S1 else .stuck
  | .xo1 b dx f d => if b = a ∧ dx = dd ∧ p.map (·.1) = some f then oR (r.map .bl) S1 else .stuck
  | _ => .stuck
theorem call_isX {r : Option Bool} {cv : Value} (C0 : XcC X.K C) (hz : Zc (.ref C) (exDict dd p) oe) (hf : ∃ vs, oe.data = .fields vs) (hk : ∀ b, r = some b → PySem.W.kitOne X.K (.ref C) cv = some b) :
    CallR (X.suite a ((a, oe) :: pn)) (.builtin "isinstance") (fun xs H Q => ∃ (c : V) (G : Gd) (φ : List Addr) (U : Addr → Prop) (d : Pay) (b : Bool), xs = [.ref a, c] ∧ (∀ u, RelV c u → u = cv) ∧ (exDict dd d = exDict dd p) ∧ (∃ v, Rep G φ U H v (exD a dd d)) ∧ r = some b ∧ Q (.bl b) H) := by
  intro pins s σ H xs us Q I rr h
  obtain ⟨c, G, φ, U, d, b, rfl, hcv, hd, hr, hb, q⟩ := h
  cases rr with
  | cons rx rr =>
    cases rr with
    | cons rt rr =>
      cases rr
      cases rx
      have ec := hcv _ rt
      subst ec
      obtain ⟨od, J⟩ := inst_at (p := d) I (by rw [hd]; exact hz) hf hr
      exact PySem.W.kia_one (PySem.W.kitx_exc C0.cl C0.ga C0.gg C0.sb C0.ca C0.cg C0.ct C0.ob) I.kIn J (hk b hb) (fun z => nomatch z) fun tk => ⟨.bl b, H, I.kept (t' := tk) fun _ _ z => z, rfl, q⟩
variable {e : Expr} {pos p1 p2 : Pos} {me : M D} {y : Str}
theorem lift_isE {c : V} {cv : Value} {r : Option Bool} (hcv : ∀ u, RelV c u → u = cv) (σ : L2.St) (H : Hp) (Q : VK) (h : LiftR (gX X T) F W (rpD (gX X T)) (mIsE a dd p r me) σ H Q) :
    tCB (fun xs H Q => ∃ (c : V) (G : Gd) (φ : List Addr) (U : Addr → Prop) (d : Pay) (b : Bool), xs = [.ref a, c] ∧ (∀ u, RelV c u → u = cv) ∧ (exDict dd d = exDict dd p) ∧ (∃ v, Rep G φ U H v (exD a dd d)) ∧ r = some b ∧ Q (.bl b) H)
      (tCons (LiftR (gX X T) F W (rpD (gX X T)) me) (tCons (tC c) tNil)) σ H Q := by
  obtain ⟨φ, ow, S, env, R, q⟩ := h
  refine lift_bnd R q fun d S1 φ1 H1 v R1 s1 p1 r1 q1 => ?_
  show ∃ c', _
  split at q1
  · rename_i b
    split at q1
    · rename_i hz
      obtain ⟨rfl, rfl⟩ := hz
      cases r with
      | none => exact q1.elim
      | some b =>
        have r1' := r1
        cases r1
        exact ⟨c, _, φ1, _, none, b, rfl, hcv, rfl, ⟨_, r1'⟩, rfl, PostR.here (a := D.bl b) q1 R1 (.bl _)⟩
    · exact q1.elim
  · rename_i b dx f d
    split at q1
    · rename_i hz
      obtain ⟨rfl, rfl, hp⟩ := hz
      cases r with
      | none => exact q1.elim
      | some b =>
        have r1' := r1
        cases r1
        refine ⟨c, _, φ1, _, some (f, d), b, rfl, hcv, ?_, ⟨_, r1'⟩, rfl, PostR.here (a := D.bl b) q1 R1 (.bl _)⟩
        cases p with
        | none => cases hp
        | some _ => rfl
    · exact q1.elim
  · exact q1.elim
/-- isinstance(e, y), y an own class -/
theorem se_isE {r : Option Bool} {D0 : Addr} (C0 : XcC X.K C) (hz : Zc (.ref C) (exDict dd p) oe) (hf : ∃ vs, oe.data = .fields vs) (hk : ∀ b, r = some b → PySem.W.kitOne X.K (.ref C) (.ref D0) = some b) (hg : Gl X "isinstance") (hm : X.mg "isinstance" = none) (hg2 : Gl X y) (hm2 : X.mg y = some (.ref D0))
    (he : SE (X.suite a ((a, oe) :: pn)) T F W me e) (hd2 : (y == ("__debug__" : Str)) = false := by decide)
    (hs : starEach [e, .Name y p2] X.env = (false, eval e X.env) :: starEach [.Name y p2] X.env := by rfl) : SE (X.suite a ((a, oe) :: pn)) T F W (mIsE a dd p r me) (.Call (.Name "isinstance" p1) [e, .Name y p2] [] pos) :=
  PE.imp (pe_callB (X := X.suite a ((a, oe) :: pn)) (call_isX C0 hz hf hk) hg hm PyProof.Rows.boot_isinstance (pa_cons he (pa_cons (pe_glob (X := X.suite a ((a, oe) :: pn)) (v := .ref D0) hg2 hm2 rfl hd2) pa_nil) hs) (he := hs)) (lift_isE (X := X.suite a ((a, oe) :: pn)) fun u h => h)
/-- .. a built-in one -/
theorem se_isEb {r : Option Bool} {t : String} (C0 : XcC X.K C) (hz : Zc (.ref C) (exDict dd p) oe) (hf : ∃ vs, oe.data = .fields vs) (hk : ∀ b, r = some b → PySem.W.kitOne X.K (.ref C) (.type t) = some b) (hg : Gl X "isinstance") (hm : X.mg "isinstance" = none) (hg2 : Gl X y) (hm2 : X.mg y = none) (hv2 : bootBuiltins y = some (.type t))
    (he : SE (X.suite a ((a, oe) :: pn)) T F W me e) (hn2 : y ≠ "__name__" := by decide) (hd2 : (y == ("__debug__" : Str)) = false := by decide)
    (hs : starEach [e, .Name y p2] X.env = (false, eval e X.env) :: starEach [.Name y p2] X.env := by rfl) : SE (X.suite a ((a, oe) :: pn)) T F W (mIsE a dd p r me) (.Call (.Name "isinstance" p1) [e, .Name y p2] [] pos) :=
  PE.imp (pe_callB (X := X.suite a ((a, oe) :: pn)) (call_isX C0 hz hf hk) hg hm PyProof.Rows.boot_isinstance (pa_cons he (pa_cons (pe_bltn (X := X.suite a ((a, oe) :: pn)) (v := .ty t) hg2 hm2 hv2 rfl hn2 hd2) pa_nil) hs) (he := hs)) (lift_isE (X := X.suite a ((a, oe) :: pn)) fun u h => h)
/-- e.f -/
def mXf (a dd : Addr) (n : Str) (me : M D) : M D := fun env S => (me env S).bnd fun d S1 => match d with
  | .xo1 b dx f d => if b = a ∧ dx = dd ∧ f = n then .ok d S1 else .stuck
  | _ => .stuck
theorem se_xf {n : Str} (C0 : XcC X.K C) (hno : PySem.W.findIn X.K (.ref C) n = some none) (hz : Zc (.ref C) (some dd) oe) (hf : ∃ vs, oe.data = .fields vs) (he : SE (X.suite a ((a, oe) :: pn)) T F W me e) (hb : attributeBase e n X.env (eval e X.env) = eval e X.env := by rfl) :
    SE (X.suite a ((a, oe) :: pn)) T F W (mXf a dd n me) (.Attribute e n pos) :=
  PE.imp (pe_xf ⟨C0.ga, C0.gg, C0.sb, C0.hd⟩ hno hz hf he hb) fun σ H Q ⟨φ, ow, S, env, R, q⟩ => lift_bnd R q fun d S1 φ1 H1 v R1 s1 p1 r1 q1 => by
    split at q1
    · rename_i b dx f d
      split at q1
      · rename_i hz
        obtain ⟨rfl, rfl, rfl⟩ := hz
        cases r1 with
        | xo1 h1 h2 h3 => exact ⟨rfl, rfl, dx, _, _, rfl, h1, by simp [List.lookup], PostR.here q1 R1 h3⟩
      · exact q1.elim
    · exact q1.elim
end
/-! ### try: body / except B as n: suite -/
/-- tk: does the clause take an exception of the class c; i: the name's slot -/
def mTry (i : Nat) (tk : Str → Option Bool) (mb : MS) (ms : Addr → Addr → Str → Pay → MS) (a dd : Addr) : MS := fun e S => match mb e S with
  | .exn c p e1 S1 => (match tk c with
    | some true => (match ms a dd c p (e1.set i (.val (exD a dd p))) S1 with
      | .nx e2 S2 => .nx (e2.set i .hid) S2
      | .bk e2 S2 => .bk (e2.set i .hid) S2
      | .ct e2 S2 => .ct (e2.set i .hid) S2
      | .rt d S2 => .rt d S2
      | _ => .stuck)
    | some false => .exn c p e1 S1
    | none => .stuck)
  | r => r
end DL
set_option Elab.async false
set_option linter.all false
set_option maxRecDepth 100000
/-! DX4: try by data -/
namespace DL
open PySem PySem.Spec PyProof.Rows L2
section
variable {X : Cx} {T : List (Addr × Str)} {F : Fr} {W : WX}
theorem XRep.exd {G : Gd} {φ : List Addr} {U : Addr → Prop} {H : Hp} {c : Str} {p : Pay} {cls : Value} {d : Option Addr} (h : XRep G φ U H c p cls d) : ∃ dd C, G.mg c = some (.ref C) ∧ cls = .ref C ∧ d = exDict dd p ∧ ∀ a, Rep G φ U H (.ref a) (exD a dd p) := by
  obtain ⟨⟨C, h1, h2⟩, h3⟩ := h
  cases p with
  | none => exact ⟨0, C, h1, h2, h3, fun a => .adr a⟩
  | some fd =>
    obtain ⟨f, d⟩ := fd
    obtain ⟨x, v, e, q1, q2, q3⟩ := h3
    exact ⟨x, C, h1, h2, e, fun a => .xo1 q1 q2 q3⟩
theorem ss_try (i : Nat) {x n : Str} {cv : Value} {tk : Str → Option Bool} {body suite : List Stmt} {b₀ : Stmt} {np pos pos' : Pos} {mb m : MS} {ms : Addr → Addr → Str → Pay → MS} (hs : X.stack = X.env :: X.outer) (hf : X.env.frame = some X.env.locals) (hN : X.N.Nodup) (hi : X.N[i]? = some n) (hln : X.env.kindOf n = some .local) (hc : Names X x cv) (tkW : Takes X W)
    (hex : ∀ c0 C b, X.mg c0 = some (.ref C) → tk c0 = some b → PySem.W.exmOne X.K (.ref C) cv = some b)
    (hb : ∀ (W' : WX) (pn : List (Addr × Obj)) (xe : Value → Shared → Prop), Takes (X.tr pn xe) W' → PassesOwn (model X.prog X.w) X.A X.env xe → SSs (X.tr pn xe) T F W' mb body)
    (hsu : ∀ (a dd : Addr) (c0 : Str) (C : Addr) (p : Pay) (oe : Obj) (pn : List (Addr × Obj)), X.mg c0 = some (.ref C) → tk c0 = some true → Zc (.ref C) (exDict dd p) oe → (∃ vs, oe.data = .fields vs) → SSs (X.suite a ((a, oe) :: pn)) T F WNo (ms a dd c0 p) (b₀ :: suite))
    (hm : ∀ a dd e S, m e S ≠ .stuck → mTry i tk mb ms a dd e S = m e S) :
    SS X T F W m (.Try body [.ExceptHandler (some (.Name x np)) (some n) (b₀ :: suite) pos'] [] [] pos) :=
  PS.imp (ps_try_as (i := i) (tb := fun W' => LiftS (gX X T) F W' mb)
    (ts := fun a cls d D σ H => ∃ c0 C p dd, X.mg c0 = some (.ref C) ∧ cls = .ref C ∧ d = exDict dd p ∧ tk c0 = some true ∧ LiftS (gX X T) F WNo (ms a dd c0 p) D σ H) (Wout := W) hs hf hN hi hln hc tkW hb
    (fun a oe cls d pn hz hf => ⟨fun pins s σ H D I h => by
      obtain ⟨c0, C, p, dd, h1, rfl, rfl, h2, h3⟩ := h
      exact (hsu a dd c0 C p oe pn h1 h2 hz hf).run pins s σ H D I h3⟩)) fun D σ H ⟨φ, ow, S, env, R, q⟩ => by
    have ns : m env S ≠ .stuck := fun z => by rw [z] at q; exact q
    refine ⟨φ, ow, S, env, R, ?_⟩
    have key : ∀ a dd, PostS (gX X T) F W φ ow H (mTry i tk mb ms a dd env S) D := fun a dd => by
      rw [hm a dd env S ns]
      exact q
    unfold mTry at key
    cases eb : mb env S with
    | nx e1 S1 => have k := key 0 0; rw [eb] at k; exact k
    | bk e1 S1 => have k := key 0 0; rw [eb] at k; exact k
    | ct e1 S1 => have k := key 0 0; rw [eb] at k; exact k
    | rt d S1 => have k := key 0 0; rw [eb] at k; exact k
    | stuck => have k := key 0 0; rw [eb] at k; exact k
    | exn c p e1 S1 =>
      intro φ1 ow1 σ1 H1 cls d R1 s1 p1 x
      obtain ⟨dd, C, h1, rfl, rfl, hr⟩ := x.exd
      cases ht : tk c with
      | none =>
        have k := key 0 0
        simp only [eb, ht] at k
        exact k.elim
      | some b =>
        refine ⟨b, hex c C b h1 ht, fun hb1 a hna => ?_, fun hb1 => ?_⟩
        · subst hb1
          have k := key a dd
          simp only [eb, ht] at k
          refine ⟨c, C, p, dd, h1, rfl, rfl, ht, φ1, ow1.off i, S1, _, R1.setVal ((hr a).st off_stp (List.prefix_refl _)), ?_⟩
          have st0 : Stp (mutA F φ ow) H (mutA F φ1 (ow1.off i)) H1 := s1.trans off_stp
          cases em : ms a dd c p (e1.set i (.val (exD a dd p))) S1 with
          | nx e2 S2 =>
            rw [em] at k
            intro φ2 ow2 σ2 H2 R2 s2 p2
            exact k φ2 (ow2.off i) (σ2.set i none) H2 R2.hide ((st0.trans s2).trans off_stp) (p1.trans p2)
          | bk e2 S2 =>
            rw [em] at k
            intro φ2 ow2 σ2 H2 R2 s2 p2
            exact k φ2 (ow2.off i) (σ2.set i none) H2 R2.hide ((st0.trans s2).trans off_stp) (p1.trans p2)
          | ct e2 S2 =>
            rw [em] at k
            intro φ2 ow2 σ2 H2 R2 s2 p2
            exact k φ2 (ow2.off i) (σ2.set i none) H2 R2.hide ((st0.trans s2).trans off_stp) (p1.trans p2)
          | rt d2 S2 => rw [em] at k; exact k
          | exn c2 p2 e2 S2 => rw [em] at k; exact k.elim
          | stuck => rw [em] at k; exact k.elim
        · subst hb1
          have k := key 0 0
          simp only [eb, ht] at k
          exact k φ1 ow1 σ1 H1 (.ref C) (exDict dd p) R1 s1 p1 x
end
end DL
set_option Elab.async false
set_option linter.all false
set_option maxRecDepth 100000
set_option maxHeartbeats 1000000
/-! DX5: a lambda with parameters -/
namespace DL
open PySem PySem.Spec PyProof.Rows L2 LamX
/-- the lambda's names: its parameters ps, captured ones, globals -/
structure LamP (sc scope : Scope) (ps : List Str) : Prop where
  kind : scope.kind = .function
  co : scope.isCoroutine = false
  gen : scope.isGenerator = false
  nocell : ∀ y ∈ scope.names, y.2 ≠ .cell
  loc : ∀ y ∈ scope.names, y.2 = .local → y.1 ∈ ps
  par : ∀ x ∈ ps, scope.names.lookup x = some .local
  free : ∀ y ∈ scope.names, y.2 = .free → sc.names.lookup y.1 = some .cell ∨ sc.names.lookup y.1 = some .free
def lamPB (sc scope : Scope) (ps : List Str) : Bool :=
  decide (scope.kind = .function) && (!scope.isCoroutine && (!scope.isGenerator && (ps.all (fun x => decide (scope.names.lookup x = some .local)) && scope.names.all fun y => !decide (y.2 = .cell) && ((!decide (y.2 = .local) || decide (y.1 ∈ ps)) && (!decide (y.2 = .free) || (decide (sc.names.lookup y.1 = some .cell) || decide (sc.names.lookup y.1 = some .free)))))))
theorem lamP_by {sc scope : Scope} {ps : List Str} (h : lamPB sc scope ps = true) : LamP sc scope ps := by
  unfold lamPB at h
  simp only [Bool.and_eq_true, Bool.or_eq_true, Bool.not_eq_true', decide_eq_true_eq, decide_eq_false_iff_not, List.all_eq_true] at h
  obtain ⟨h1, h2, h3, h4, h5⟩ := h
  refine ⟨h1, h2, h3, fun y hy => (h5 y hy).1, fun y hy e => ?_, h4, fun y hy e => ?_⟩
  · rcases (h5 y hy).2.1 with z | z
    · exact absurd e z
    · exact z
  · rcases (h5 y hy).2.2 with z | z
    · exact absurd e z
    · exact z
/-- the slots of the parameters set -/
def setL {α : Type} (f : α → α) (σ : List α) (ix : List Nat) (vs : List α) : List α := (ix.zip vs).foldl (fun s q => s.set q.1 (f q.2)) σ
def setSt (σ : L2.St) (ix : List Nat) (vs : List V) : L2.St := (ix.zip vs).foldl (fun s q => s.set q.1 (some q.2)) σ
def setEn (e : En) (ix : List Nat) (ds : List D) : En := (ix.zip ds).foldl (fun s q => s.set q.1 (.val q.2)) e
theorem setSt_len : ∀ (qs : List (Nat × V)) (σ : L2.St), (qs.foldl (fun s q => s.set q.1 (some q.2)) σ).length = σ.length
  | [], _ => rfl
  | q :: qs, σ => by
    show (qs.foldl _ (σ.set q.1 (some q.2))).length = _
    rw [setSt_len qs, List.length_set]
theorem setSt_get : ∀ (qs : List (Nat × V)) (σ : L2.St) (i : Nat) (v : V), (qs.foldl (fun s q => s.set q.1 (some q.2)) σ)[i]? = some (some v) → (i, v) ∈ qs ∨ (i ∉ qs.map Prod.fst ∧ σ[i]? = some (some v))
  | [], σ, i, v, h => .inr ⟨by simp, h⟩
  | q :: qs, σ, i, v, h => by
    rcases setSt_get qs (σ.set q.1 (some q.2)) i v h with z | ⟨n, z⟩
    · exact .inl (List.mem_cons_of_mem _ z)
    · rcases set_cases z with ⟨e1, e2, _⟩ | ⟨ne, z⟩
      · obtain ⟨k, w⟩ := q
        cases e2
        exact .inl (by rw [e1]; exact List.mem_cons_self)
      · refine .inr ⟨?_, z⟩
        rw [List.map_cons, List.mem_cons]
        rintro (y | y)
        · exact ne y.symm
        · exact n y
/-- a value by its key, the keys being apart -/
theorem rev_get {ps : List Str} {us : List Value} {j : Nat} {p : Str} {u : Value} (nd : ps.Nodup) (h1 : ps[j]? = some p) (h2 : us[j]? = some u) : (ps.zip us).reverse.lookup p = some u := by
  have key : ∀ (l : List (Str × Value)), (l.map Prod.fst).Nodup → (p, u) ∈ l → l.lookup p = some u := by
    intro l
    induction l with
    | nil => intro _ h; cases h
    | cons q l ih =>
      intro n h
      obtain ⟨a, b⟩ := q
      rw [List.map_cons, List.nodup_cons] at n
      rcases List.mem_cons.mp h with e | h
      · cases e
        simp [List.lookup]
      · have ne : (p == a) = false := by
          rw [beq_eq_false_iff_ne]
          intro z
          exact n.1 (by rw [← z]; exact List.mem_map.mpr ⟨_, h, rfl⟩)
        show (match p == a with | true => some b | false => l.lookup p) = some u
        rw [ne]
        exact ih n.2 h
  refine key _ ?_ ?_
  · rw [List.map_reverse]
    refine List.pairwise_reverse.mpr (List.Pairwise.imp (fun h => Ne.symm h) (show List.Pairwise (· ≠ ·) ((ps.zip us).map Prod.fst) from ?_))
    exact (nd.sublist (by
      have : ∀ (a : List Str) (b : List Value), ((a.zip b).map Prod.fst).Sublist a := by
        intro a
        induction a with
        | nil => intro b; exact List.nil_sublist _
        | cons x a ih =>
          intro b
          cases b with
          | nil => exact List.nil_sublist _
          | cons y b => exact (ih b).cons_cons _
      exact this ps us))
  · rw [List.mem_reverse]
    refine List.mem_iff_getElem?.mpr ⟨j, ?_⟩
    exact (List.getElem?_zip_eq_some (z := (p, u))).mpr ⟨h1, h2⟩
section
variable {X : Cx} {pins : List (Addr × Obj)} {σ : L2.St} {H HZ : Hp} {s s1 : Shared}
theorem lam_startP {A : Around} {outer : List Env} {E : XK} {scope : Scope} {f c' : Addr} {h₁ : Heap} {tk : Nat} {ps : List Str} {ix : List Nat} {us : List Value} {vs : List V} (I : Inv X pins σ H s) (L : LamP X.env.scope scope ps) (hN : X.N.Nodup) (hnd : ps.Nodup) (hix : ∀ (j : Nat) p, ps[j]? = some p → ∃ i, ix[j]? = some i ∧ X.N[i]? = some p)
    (hlx : ix.length = ps.length) (rv : Vals vs us) (hl : vs.length = ps.length) (e0 : Env0 X.prog X.w X.K X.mg X.base A outer s1 HZ) (hd : A.handled = none)
    (un : Un (frs X.stack) [] H HZ s.heap s1.heap) (hns : h₁.Ns s1.heap.objs.size fun y => (ps.zip us).reverse.lookup y) (kp : ∀ b o, s1.heap.get? b = some o → h₁.get? b = some o) :
    Inv (lamCx X A outer s1 HZ E scope f c') [] (setSt σ ix vs) HZ { s1 with heap := h₁, toks := tk } := by
  have hfree : ∀ y ∈ scope.names, y.2 = .free → ∃ c, X.env.cells.lookup y.1 = some c := fun y hy e => (L.free y hy e).elim (fun k => I.ok.has _ (.inl k)) fun k => I.ok.has _ (.inr k)
  have cm : ∀ {y c}, (cloFrom X.env.cells scope.names []).lookup y = some c → X.env.cells.lookup y = some c := fun {y c} e => by
    rcases cloFrom_mem (PySem.mem_of_lookup e) with hm | ⟨h1, h2⟩
    · cases hm
    · obtain ⟨c1, hc⟩ := hfree _ h1 rfl
      have hc : X.env.cells.lookup y = some c1 := hc
      have e2 : c = c1 := by
        rw [h2, hc] <;> rfl
      rw [e2]
      exact hc
  have look : ∀ {y}, scope.names.lookup y = some .free → ∃ c, (cloFrom X.env.cells scope.names []).lookup y = some c := fun {y} hl => by
    have hy : (y, NameKind.free) ∈ scope.names := PySem.mem_of_lookup hl
    exact mem_lookup (cloFrom_has (cells := X.env.cells) (acc := []) hy)
  have cellK : ∀ {c : Addr} {v : Option Value}, H c = none → s.heap.IsCell c v → h₁.IsCell c v := fun {c v} n ⟨o, ho, hd⟩ => by
    obtain ⟨sl, q⟩ := un.any ho n (by simp)
    exact ⟨_, kp _ _ q, hd⟩
  have noA : ∀ b : Addr, b ∉ (lamCx X A outer s1 HZ E scope f c').ex := fun b z => absurd (show b ∈ ([] : List Addr) from z) (by simp)
  refine ⟨⟨e0.mod, L.kind, rfl, rfl, Nat.le_refl _, fun y z c e1 e2 => I.ok.inj y z c (cm e1) (cm e2), fun y hy => ?_, fun y c z _ => ?_, fun _ => hd, Around.frames_deeper e0.frames, .inr ⟨rfl, rfl⟩, fun b z => absurd z (noA b), e0.bs, e0.bsz, fun b _ _ => noA b,
      fun b z => absurd z (noA b), e0.funs, e0.frf⟩,
    rfl, e0.bare, Un.kept kp, ⟨_, hns, fun i y v e1 e2 e3 => ?_⟩, fun y c e => ?_, e0.hok.fresh (Nat.le_refl _), fun y c e => ?_, fun q hq => absurd (show q ∈ ([] : List (Addr × Obj)) ++ [] from hq) (by simp), e0.hok.kept kp, (setSt_len _ _).trans I.len⟩
  · have hy : scope.names.lookup y = some .cell ∨ scope.names.lookup y = some .free := hy
    rcases hy with hy | hy
    · exact absurd rfl (L.nocell _ (PySem.mem_of_lookup hy))
    · exact look hy
  · have z : false = true := z
    cases z
  · have e3 : Vis scope y := e3
    have e1 : X.N[i]? = some y := e1
    rcases setSt_get _ _ _ _ e2 with hm | ⟨hm, e2⟩
    · obtain ⟨j, hj⟩ := List.mem_iff_getElem?.mp hm
      obtain ⟨q1, q2⟩ := List.getElem?_zip_eq_some.mp hj
      have hjp : j < ps.length := by
        have := (List.getElem?_eq_some_iff.mp q1).1
        omega
      obtain ⟨i', k1, k2⟩ := hix j _ (List.getElem?_eq_getElem hjp)
      rw [q1] at k1
      cases k1
      rw [e1] at k2
      have ep : y = ps[j] := Option.some.inj k2
      obtain ⟨u, hu, ru⟩ := rv.get q2
      refine ⟨u, ru, .inl ⟨?_, ?_⟩⟩
      · show scope.names.lookup y = some .local
        rw [ep]
        exact L.par _ (List.getElem_mem hjp)
      · show (ps.zip us).reverse.lookup y = some u
        exact rev_get hnd (by rw [ep]; exact List.getElem?_eq_getElem hjp) hu
    · rcases e3 with k | k | k
      · have hy := L.loc _ (PySem.mem_of_lookup k) rfl
        obtain ⟨j, hj⟩ := List.mem_iff_getElem?.mp hy
        obtain ⟨i', k1, k2⟩ := hix j _ hj
        refine absurd ?_ hm
        have ei : i = i' := nodup_ix hN e1 k2
        rw [ei]
        have hjv : j < vs.length := by
          have := (List.getElem?_eq_some_iff.mp hj).1
          omega
        exact List.mem_map.mpr ⟨(i', vs[j]), List.mem_iff_getElem?.mpr ⟨j, List.getElem?_zip_eq_some.mpr ⟨k1, List.getElem?_eq_getElem hjv⟩⟩, rfl⟩
      · exact absurd rfl (L.nocell _ (PySem.mem_of_lookup k))
      · obtain ⟨m, hn, hl⟩ := I.loc
        have hvis : Vis X.env.scope y := (L.free _ (PySem.mem_of_lookup k) rfl).elim (fun k => .inr (.inl k)) (fun k => .inr (.inr k))
        obtain ⟨w', r, q⟩ := hl i y v e1 e2 hvis
        obtain ⟨c2, h2⟩ := look k
        refine ⟨w', r, .inr ⟨.inr k, c2, h2, ?_⟩⟩
        have c1 := cm h2
        rcases q with ⟨k', _⟩ | ⟨_, c3, e', z⟩
        · have k' : X.env.scope.names.lookup y = some .local := k'
          rcases L.free _ (PySem.mem_of_lookup k) rfl with k2 | k2 <;> rw [show X.env.scope.names.lookup y = _ from k2] at k' <;> cases k'
        · rw [c1] at e'
          cases e'
          exact cellK (I.freeC y _ c1) z
  · obtain ⟨w', z⟩ := I.cell y c (cm e)
    exact ⟨w', cellK (I.freeC y c (cm e)) z⟩
  · obtain ⟨v, o, ho, hd⟩ := I.cell y c (cm e)
    exact un.free c o ho (I.freeC y c (cm e)) (by simp)
end
end DL
set_option Elab.async false
set_option linter.all false
set_option maxRecDepth 100000
set_option maxHeartbeats 1000000
/-! DX6: a lambda handed to a def, by data -/
namespace DL
open PySem PySem.Spec PyProof.Rows L2 LamX
section
variable {G : Gd} {F : Fr} {φ φ1 φ2 : List Addr} {ow : Ow} {S S2 : Sto} {env envc : En} {σ σc : L2.St} {H H1 HZ : Hp}
theorem stp_ext {U : Addr → Prop} (e : ExtN H H1) : Stp U H U H1 := fun a o nt h n => ⟨e a o h nt, n⟩
theorem Lv.ext {a : Addr} (h : Lv H a) (e : ExtN H H1) : Lv H1 a := by
  obtain ⟨o, n, q⟩ := h
  exact ⟨o, n, e _ _ q n⟩
theorem Rel.ext (R : Rel G F φ ow S env σ H) (e : ExtN H H1) (t : Tabs G.T H1) : Rel G F φ ow S env σ H1 where
  lenE := R.lenE
  lenO := R.lenO
  slot := fun i d q => by
    obtain ⟨v, h1, h2⟩ := R.slot i d q
    exact ⟨v, h1, h2.st (stp_ext e) (List.prefix_refl _)⟩
  tmp := fun a ds h => by
    obtain ⟨vs, h1, h2⟩ := R.tmp a ds h
    exact ⟨vs, e _ _ h1 nt_lst, h2.st (stp_ext e) (List.prefix_refl _)⟩
  own := fun i ds q => by
    obtain ⟨a, vs, h1, h2, h3, h4⟩ := R.own i ds q
    exact ⟨a, vs, h1, h2, e _ _ h3 nt_lst, h4.st (stp_ext e) (List.prefix_refl _)⟩
  owI := R.owI
  tmI := R.tmI
  owT := R.owT
  owN := fun a h => by
    obtain ⟨h1, h2, h3, h4⟩ := R.owN a h
    exact ⟨h1, h2, h3, h4.ext e⟩
  cells := fun n c q => by
    obtain ⟨a, h1, h2⟩ := R.cells n c q
    refine ⟨a, h1, ?_⟩
    cases h2 with
    | lst k1 k2 => exact .lst (e _ _ k1 nt_lst) (k2.st (stp_ext e) (List.prefix_refl _))
    | ins k1 k2 k3 k4 => exact .ins k1 (e _ _ k2 nt_ins) (e _ _ k3 (fun _ z => by cases z)) (k4.st (stp_ext e) (List.prefix_refl _))
  nd := R.nd
  pre := R.pre
  new := R.new
  there := fun a h => (R.there a h).ext e
  u0 := fun a h => ⟨(R.u0 a h).1, (R.u0 a h).2.ext e⟩
  keep := fun a o nt h1 h2 => e _ _ (R.keep a o nt h1 h2) nt
  tabs := t
  lenS := R.lenS
  owE := R.owE
def hideE (env : En) : En := env.map fun s => match s with
  | .own _ => .hid
  | s => s
theorem hideE_val {i : Nat} {d : D} (h : (hideE env)[i]? = some (.val d)) : env[i]? = some (.val d) := by
  unfold hideE at h
  rw [List.getElem?_map] at h
  cases e : env[i]? with
  | none => rw [e] at h; cases h
  | some s =>
    rw [e] at h
    cases s with
    | own ds => cases h
    | hid => cases h
    | val d' => exact h
theorem hideE_own {i : Nat} {ds : List D} (h : (hideE env)[i]? = some (.own ds)) : False := by
  unfold hideE at h
  rw [List.getElem?_map] at h
  cases e : env[i]? with
  | none => rw [e] at h; cases h
  | some s =>
    rw [e] at h
    cases s <;> cases h
theorem set_slots {U : Addr → Prop} : ∀ (ix : List Nat) (vs : List V) (ds : List D) (σ : L2.St) (e : En), RepL G φ U H vs ds → e.length = σ.length → (∀ (i : Nat) d, e[i]? = some (.val d) → ∃ v, σ[i]? = some (some v) ∧ Rep G φ U H v d) → (∀ (i : Nat) ds, e[i]? ≠ some (.own ds)) →
    (∀ (i : Nat) d, (setEn e ix ds)[i]? = some (.val d) → ∃ v, (setSt σ ix vs)[i]? = some (some v) ∧ Rep G φ U H v d) ∧ (∀ (i : Nat) fs, (setEn e ix ds)[i]? ≠ some (.own fs)) ∧ (setEn e ix ds).length = (setSt σ ix vs).length
  | [], vs, ds, σ, e, _, hl, h, hn => ⟨h, hn, hl⟩
  | k :: ix, vs, ds, σ, e, r, hl, h, hn => by
    cases r with
    | nil => exact ⟨h, hn, hl⟩
    | @cons v vs d ds r1 r2 =>
      refine set_slots ix vs ds (σ.set k (some v)) (e.set k (.val d)) r2 (by simp [hl]) (fun i d' hi => ?_) (fun i fs hi => ?_)
      · rcases set_cases hi with ⟨e1, e2, e3⟩ | ⟨ne, hi⟩
        · cases e2
          subst e1
          exact ⟨v, by rw [List.getElem?_set_self (by rw [← hl]; exact e3)], r1⟩
        · obtain ⟨w, q1, q2⟩ := h i d' hi
          exact ⟨w, by rw [List.getElem?_set_ne ne]; exact q1, q2⟩
      · rcases set_cases hi with ⟨_, e2, _⟩ | ⟨ne, hi⟩
        · cases e2
        · exact hn i fs hi
/-- the lambda's frame, entered from the callee's -/
theorem Rel.lam {ix : List Nat} {owc : Ow} {vs : List V} {ds : List D} (R : Rel G F φ ow S env σ H) (Rc : Rel G (F.callee φ ow H) φ2 owc S2 envc σc HZ) (r : RepL G φ2 (mutA (F.callee φ ow H) φ2 owc) HZ vs ds) :
    ∃ owl : Ow, Rel G ((F.callee φ ow H).callee φ2 owc HZ) φ2 owl S2 (setEn (hideE env) ix ds) (setSt σ ix vs) HZ ∧ owl.tm = [] ∧ (∀ a, ¬ owl.has a) := by
  have E := Rc.enter
  have em : ∀ owl : Ow, (∀ a, ¬ owl.has a) → mutA ((F.callee φ ow H).callee φ2 owc HZ) φ2 owl = mutA (F.callee φ ow H) φ2 owc := fun owl no => by
    rw [← mut_callee (F := F.callee φ ow H) (φ := φ2) (φ' := φ2) (ow := owc) (H := HZ)]
    funext a
    apply propext
    constructor
    · rintro (h | h | h)
      · exact .inl h
      · exact .inr (.inl h)
      · exact absurd h (no a)
    · rintro (h | h | h)
      · exact .inl h
      · exact .inr (.inl h)
      · simp [Ow.has] at h
  have st : Stp (mutA F φ ow) H (mutA (F.callee φ ow H) φ2 owc) HZ := fun a o nt e n => by
    have na : a ∉ φ := fun z => n (.inr (.inl z))
    refine ⟨Rc.keep a o nt e na, fun z => ?_⟩
    rcases z with (z | z) | z | z
    · exact n (.inl z)
    · exact n (.inr (.inr z))
    · rcases Rc.new a z with y | y
      · exact na y
      · exact y o nt e
    · exact (Rc.owN a z).2.2.1 o nt e
  have pf : φ <+: φ2 := Rc.pre
  obtain ⟨h1, h2, h3⟩ := set_slots (G := G) (φ := φ2) (H := HZ) (U := mutA (F.callee φ ow H) φ2 owc) ix vs ds σ (hideE env) r (by unfold hideE; rw [List.length_map]; exact R.lenE)
    (fun i d hi => by
      obtain ⟨v, q1, q2⟩ := R.slot i d (hideE_val hi)
      exact ⟨v, q1, q2.st st pf⟩) (fun i fs hi => hideE_own hi)
  have no : ∀ a, ¬ (Ow.mk (List.replicate (setEn (hideE env) ix ds).length none) []).has a := fun a h => by
    rcases h with h | h
    · have := (List.mem_replicate.mp (show some a ∈ List.replicate (setEn (hideE env) ix ds).length none from h)).2
      cases this
    · simp at h
  have rs : ∀ (i : Nat) (a : Addr), (List.replicate (setEn (hideE env) ix ds).length (none : Option Addr))[i]? ≠ some (some a) := fun i a h => by
    rw [List.getElem?_replicate] at h
    split at h <;> cases h
  have c := Rc.cells
  refine ⟨⟨List.replicate (setEn (hideE env) ix ds).length none, []⟩, ⟨h3, by simp, fun i d hi => ?_, fun i fs hi => absurd hi (h2 i fs), fun a es h => by simp at h, fun i j a h => absurd h (rs i a), .nil, fun a h => absurd (.inl h) (no a), fun a h => absurd h (no a), ?_, E.nd, E.pre, E.new, E.there, E.u0, E.keep, E.tabs, E.lenS, fun i a h => absurd h (rs i a)⟩, rfl, no⟩
  · obtain ⟨v, q1, q2⟩ := h1 i d hi
    exact ⟨v, q1, by rw [em _ no]; exact q2⟩
  · rw [em _ no]
    exact c
end
/-- what the lambda does, its definer's names being env -/
def lamF (env : En) (ix : List Nat) (mb : M D) : MF := fun ds S => mb (setEn (hideE env) ix ds) S
/-- a(..), a the name that holds the lambda at f -/
def mApp (i : Nat) (f : Addr) (n : Nat) (act : MF) (ml : M (List D)) : M D := fun env S => match env[i]? with
  | some (.val (.adr f')) => if f' = f then (ml env S).bnd fun ds S1 => if ds.length = n then act ds S1 else .stuck else .stuck
  | _ => .stuck
/-- the written arguments of such a call -/
structure PCf (X : Cx) (es : List Expr) (t : TA) : Prop where
  run : ∀ (pos : Pos) (f : Addr) (pins : List (Addr × Obj)) (s : Shared) (σ : L2.St) (H : Hp) (Qv : Value → Shared → Prop) (R : List V → Hp → Prop), Inv X pins σ H s → (∀ s1 H1, Inv X pins σ H1 s1 → PySem.W.FnAt f s1.heap) →
    t σ H R → (∀ us s2 vs H2, Inv X pins σ H2 s2 → Vals vs us → R vs H2 → wpAny (model X.prog X.w) X.A (call (.ref f) us) Qv X.xe s2) →
    wpAny (model X.prog X.w) X.A (callWith pos (.ref f) [] (backTo pos (starEach es X.env)) []) Qv X.xe s
theorem pcf_nil {X : Cx} : PCf X [] tNil := ⟨fun pos f pins s σ H Qv R I hf h q => PySem.W.callWith_F0 (hf s H I) (q [] s [] H I .nil h)⟩
theorem pcf_cons {X : Cx} {e : Expr} {es : List Expr} {t : TA} (ha : PA X (e :: es) t) (he : starEach (e :: es) X.env = (false, eval e X.env) :: starEach es X.env := by rfl) (hpl : ∀ pos, (backTo pos (starEach es X.env)).any (·.1) = false := by intro _; rfl) : PCf X (e :: es) t :=
  ⟨fun pos f pins s σ H Qv R I hf h q => PySem.W.callWith_F (hf s H I) (thn (ha.run pos pins s σ H _ I h) fun us s1 ⟨vs, H1, I1, r, q1⟩ => ⟨hf s1 H1 I1, q us s1 vs H1 I1 r q1⟩) he (hpl pos)⟩
def SCf (X : Cx) (T : List (Addr × Str)) (F : Fr) (W : WX) (ml : M (List D)) (es : List Expr) : Prop := ∃ t, PCf X es t ∧ ∀ σ H Q, LiftR (gX X T) F W (rpL (gX X T)) ml σ H Q → t σ H Q
theorem scf_nil {X : Cx} {T : List (Addr × Str)} {F : Fr} {W : WX} : SCf X T F W mNil [] := ⟨_, pcf_nil, lift_nil⟩
theorem scf_cons {X : Cx} {T : List (Addr × Str)} {F : Fr} {W : WX} {e : Expr} {es : List Expr} {ml : M (List D)} (ha : SA X T F W ml (e :: es)) (he : starEach (e :: es) X.env = (false, eval e X.env) :: starEach es X.env := by rfl) (hpl : ∀ pos, (backTo pos (starEach es X.env)).any (·.1) = false := by intro _; rfl) : SCf X T F W ml (e :: es) :=
  ⟨_, pcf_cons ha he hpl, fun _ _ _ z => z⟩
/-- arguments ahead of others -/
structure PAt (X : Cx) (es rest : List Expr) (t : TA) : Prop where
  run : ∀ (pos : Pos) (pins : List (Addr × Obj)) (s : Shared) (σ : L2.St) (H : Hp) (R : List V → Hp → Prop) (Q : List Value → Shared → Prop), Inv X pins σ H s → t σ H R →
    (∀ us s1 vs H1, Inv X pins σ H1 s1 → Vals vs us → R vs H1 → wpAny (model X.prog X.w) X.A (spliced (backTo pos (starEach rest X.env))) (fun us2 s2 => Q (us ++ us2) s2) X.xe s1) →
    wpAny (model X.prog X.w) X.A (spliced (backTo pos (starEach (es ++ rest) X.env))) Q X.xe s
theorem pat_nil {X : Cx} {rest : List Expr} : PAt X [] rest tNil := ⟨fun pos pins s σ H R Q I h q => q [] s [] H I .nil h⟩
theorem pat_cons {X : Cx} {e : Expr} {es rest : List Expr} {te : TE} {t : TA} (ha : PE X e te) (hr : PAt X es rest t) (hs : starEach (e :: (es ++ rest)) X.env = (false, eval e X.env) :: starEach (es ++ rest) X.env := by rfl) : PAt X (e :: es) rest (tCons te t) :=
  ⟨fun pos pins s σ H R Q I h q => by
    show wpAny _ _ (spliced (backTo pos (starEach (e :: (es ++ rest)) X.env))) _ _ _
    rw [hs]
    show wpAny _ _ (spliced ((false, eval e X.env) :: backTo pos (starEach (es ++ rest) X.env))) _ _ s
    refine Calls.spliced_cons (thn (ha.run pins s σ H _ I h) fun u s1 ⟨x, H1, I1, r1, q1⟩ => ?_)
    exact hr.run pos pins s1 σ H1 _ _ I1 q1 fun us s2 vs H2 I2 r2 q2 => q (u :: us) s2 (x :: vs) H2 I2 (.cons r1 r2) q2⟩
def SAt (X : Cx) (T : List (Addr × Str)) (F : Fr) (W : WX) (ml : M (List D)) (es rest : List Expr) : Prop := ∃ t, PAt X es rest t ∧ ∀ σ H Q, LiftR (gX X T) F W (rpL (gX X T)) ml σ H Q → t σ H Q
theorem sat_nil {X : Cx} {T : List (Addr × Str)} {F : Fr} {W : WX} {rest : List Expr} : SAt X T F W mNil [] rest := ⟨_, pat_nil, lift_nil⟩
theorem sat_cons {X : Cx} {T : List (Addr × Str)} {F : Fr} {W : WX} {e : Expr} {es rest : List Expr} {ma : M D} {ml : M (List D)} (ha : SE X T F W ma e) (hr : SAt X T F W ml es rest) (hs : starEach (e :: (es ++ rest)) X.env = (false, eval e X.env) :: starEach (es ++ rest) X.env := by rfl) : SAt X T F W (mCons ma ml) (e :: es) rest := by
  obtain ⟨t, h1, h2⟩ := hr
  exact ⟨_, pat_cons ha h1 hs, fun σ H Q ⟨φ, ow, S, env, R, q⟩ => lift_bnd R q fun d S1 φ1 H1 v R1 s1 p1 r1 q1 => h2 _ _ _ (lift_bnd R1 q1 fun ds S2 φ2 H2 vs R2 s2 p2 r2 q2 => PostR.here (a := d :: ds) q2 R2 (.cons (RepL.st (RepL.cons r1 .nil) s2 p2 |> fun z => by cases z with | cons a b => exact a) r2))⟩
end DL
set_option Elab.async false
set_option linter.all false
set_option maxRecDepth 100000
set_option maxHeartbeats 1000000
/-! DX7: the lambda called, the def that gets it -/
namespace DL
open PySem PySem.Spec PyProof.Rows L2 LamX
theorem RepC.kind {G : Gd} {φ : List Addr} {U : Addr → Prop} {H : Hp} {a : Addr} {c : Cell} (h : RepC G φ U H a c) : (∃ vs, H a = some (.lst vs)) ∨ ∃ Ca dx fs, H a = some (.ins Ca dx fs) := by
  cases h with
  | lst k _ => exact .inl ⟨_, k⟩
  | ins _ k _ _ => exact .inr ⟨_, _, _, k⟩
section
variable {X : Cx} {T : List (Addr × Str)} {F : Fr} {pins : List (Addr × Obj)} {σ : L2.St} {H : Hp} {s : Shared} {φ : List Addr} {ow : Ow} {S : Sto} {env : En}
/-- the callee's context -/
abbrev cxC (X : Cx) (Ng : List Str) (qg : Str) (sg : Scope) (g : Addr) (cdg : Value) (s : Shared) (H : Hp) (E : XK) : Cx := cxOf (L2.CX X.prog X.w) X.prog X.w X.K X.mg X.base Ng qg sg g cdg X.A X.stack s H E
theorem se_act {Ng : List Str} {qg a : Str} {sg scope : Scope} {g f c' : Addr} {cdg pm ctv : Value} {params : Arguments} {body : Expr} {k i : Nat} {ps : List Str} {ix : List Nat} {mb : M D} {Eg : XK} {pn : List (Addr × Obj)} {xe : Value → Shared → Prop} {W : WX} {ml : M (List D)} {es : List Expr} {p1 p2 : Pos}
    (I : Inv X pins σ H s) (R : Rel (gX X T) F φ ow S env σ H) (L : LamP X.env.scope scope ps) (hN : X.N.Nodup) (hnd : ps.Nodup) (hix : ∀ (j : Nat) p, ps[j]? = some p → ∃ i, ix[j]? = some i ∧ X.N[i]? = some p) (hlx : ix.length = ps.length)
    (hf : s.heap.get? f = some (PySem.W.kla_obj "<lambda>" (X.env.qual ++ "<lambda>") params body scope (cloFrom X.env.cells scope.names []) pm c' ctv)) (hfn : H f = none) (hfr : f ∉ frs X.stack) (hco : H c' = some (CodeO c' (X.env.qual ++ "<lambda>")))
    (hbind : ∀ us : List Value, us.length = ps.length → bindArgs (PySem.W.kla_fn "<lambda>" (X.env.qual ++ "<lambda>") params body scope (cloFrom X.env.cells scope.names []) pm (.ref c') ctv) ⟨us, []⟩ = pure (ps.zip us))
    (tk : Takes ((cxC X Ng qg sg g cdg s H Eg).tr pn xe) W) (hr : Room (k + 1) (X.A.deeper (envOfC qg sg s.heap.objs.size g cdg)))
    (hbody : ∀ (A : Around) (outer : List Env) (s : Shared) (H : Hp) (E : XK) (f c' : Addr) (F' : Fr), Room k (A.deeper (lamEnv X scope s.heap.objs.size f c')) → SE (lamCx X A outer s H E scope f c') T F' (fun cls d _ H => E cls d H) mb body)
    (ha : SCf ((cxC X Ng qg sg g cdg s H Eg).tr pn xe) T (F.callee φ ow H) W ml es) (hNg : Ng[i]? = some a) (hv : Vis sg a) (hd : (a == ("__debug__" : Str)) = false) (hcd : (a == ("__classdict__" : Str)) = false) :
    SE ((cxC X Ng qg sg g cdg s H Eg).tr pn xe) T (F.callee φ ow H) W (mApp i f ps.length (lamF env ix mb) ml) (.Call (.Name a p1) es [] p2) := by
  refine ⟨fun pinsZ sZ σZ HZ Q IZ h => ?_⟩
  obtain ⟨φ2, ow2, S2, envc, Rc, q⟩ := h
  unfold mApp at q
  split at q
  · rename_i f' he
    split at q
    · rename_i ef
      subst ef
      obtain ⟨v, h1, h2⟩ := Rc.slot i _ he
      have hv' : v = .ref f' := by cases h2; rfl
      subst hv'
      refine wpAny_Call_Name_kw (thn ((pe_var (pos := p1) (i := i) hNg hv hd hcd).run pinsZ sZ σZ HZ (fun v H1 => v = .ref f' ∧ H1 = HZ) IZ ⟨.ref f', h1, rfl, rfl⟩) fun u s1 ⟨v, H1, I1, r1, q1⟩ => ?_)
      obtain ⟨ev, eH⟩ := q1
      subst ev
      rw [eH] at I1
      obtain rfl : u = Value.ref f' := r1
      obtain ⟨t, C, hC⟩ := ha
      have of_ : ∀ s1 H1, Inv ((cxC X Ng qg sg g cdg s H Eg).tr pn xe) pinsZ σZ H1 s1 → s1.heap.get? f' = some (PySem.W.kla_obj "<lambda>" (X.env.qual ++ "<lambda>") params body scope (cloFrom X.env.cells scope.names []) pm c' ctv) :=
        fun s1 H1 I1 => I1.base.keep f' _ hf hfn hfr (fun z => nomatch (show f' ∈ ([] : List Addr) from z))
      refine C.run p2 f' pinsZ s1 σZ HZ _ (fun vs H2 => ∃ φ3 S3 ds, Rel (gX X T) (F.callee φ ow H) φ3 ow2 S3 envc σZ H2 ∧ RepL (gX X T) φ3 (mutA (F.callee φ ow H) φ3 ow2) H2 vs ds ∧ ds.length = ps.length ∧ PostR (gX X T) (F.callee φ ow H) W (rpD (gX X T)) φ3 ow2 envc σZ H2 (lamF env ix mb ds S3) Q) I1
        (fun s1 H1 I1 => ⟨_, _, _, _, of_ s1 H1 I1⟩) (hC _ _ _ (lift_bnd Rc q fun ds S3 φ3 H3 vs R3 s3 p3 r3 q3 => ?_)) fun us s2 vs H2 I2 rv hR => ?_
      · split at q3
        · rename_i hl
          exact ⟨φ3, S3, ds, R3, r3, hl, q3⟩
        · exact q3.elim
      · obtain ⟨φ3, S3, ds, R3, r3, hl, q3⟩ := hR
        have of2 := of_ s2 H2 I2
        have un : Un (frs X.stack) [] H H2 s.heap s2.heap := I2.base
        have hc2 : H2 c' = some (CodeO c' (X.env.qual ++ "<lambda>")) := R3.keep c' _ (fun ps z => codeO_ne ps z) hco (fun z => by
          obtain ⟨n, hn⟩ := List.mem_iff_getElem?.mp (show c' ∈ φ from z)
          have hlt : n < S.length := by
            rw [R.lenS]
            exact (List.getElem?_eq_some_iff.mp hn).1
          obtain ⟨a', k1, k2⟩ := R.cells n _ (List.getElem?_eq_getElem hlt)
          rw [hn] at k1
          cases k1
          rcases k2.kind with ⟨vs, k2⟩ | ⟨Ca, dx, fs, k2⟩
          · rw [hco] at k2
            unfold CodeO at k2
            cases k2
          · rw [hco] at k2
            unfold CodeO at k2
            cases k2)
        obtain ⟨⟨oc, vs', t', hoc, hdc, hvc⟩, _, _⟩ := I2.hok c' _ hc2
        have hlv : vs.length = ps.length := (RepL.length r3).trans hl
        have rc : codeAny (model X.prog X.w) (X.A.deeper (envOfC qg sg s.heap.objs.size g cdg)) (.call (.ref f') ⟨us, []⟩) (CR (L2.CX X.prog X.w) (envOfC qg sg s.heap.objs.size g cdg :: X.stack) X.prog X.w H2 s2 Q (WE W σZ)) s2 := by
          refine PySem.W.kla_callFunE hr.depth of2 rfl L.co L.gen rfl ⟨c', oc, vs', t', rfl, hoc, hdc, hvc⟩ ?_
          rw [hbind us (rv.length.symm.trans hlv)]
          refine wpAny_pure (wpAny_newFunctionEnv L.nocell (fun y hy => L.par _ (List.of_mem_zip (show (y.1, y.2) ∈ ps.zip us from hy)).1) (fun h₁ hns hsb => ⟨I2.nolimit.fresh _ hsb, ?_⟩) L.kind)
          show codeAny _ _ (.expr body (lamEnv X scope s2.heap.objs.size f' c')) _ _
          have kp : ∀ b o, s2.heap.get? b = some o → h₁.get? b = some o := fun b o e => hsb.extBut b o (Nat.ne_of_lt (Heap.lt_size e)) (Heap.get?_push_of_some _ e)
          have J : Inv (lamCx X (X.A.deeper (envOfC qg sg s.heap.objs.size g cdg)) (envOfC qg sg s.heap.objs.size g cdg :: X.stack) s2 H2 (WE W σZ) scope f' c') [] (setSt σ ix vs) H2 { s2 with heap := h₁, toks := s2.toks + (ps.zip us).length } :=
            lam_startP I L hN hnd hix hlx rv hlv I2.env0 hr.hd un hns kp
          obtain ⟨owl, Rl, htm, hno⟩ := Rel.lam (ix := ix) R R3 r3
          have em : ∀ φ', mutA ((F.callee φ ow H).callee φ3 ow2 H2) φ' owl = mutA ((F.callee φ ow H).callee φ3 ow2 H2) φ' ow0 := fun φ' => by
            funext a
            apply propext
            constructor
            · rintro (h | h | h)
              · exact .inl h
              · exact .inr (.inl h)
              · exact absurd h (hno a)
            · rintro (h | h | h)
              · exact .inl h
              · exact .inr (.inl h)
              · simp [Ow.has] at h
          have qf := PostR.callee R3 q3
          refine PySem.W.kla_codeExpr (wpAny_mono ((hbody _ _ s2 H2 (WE W σZ) f' c' ((F.callee φ ow H).callee φ3 ow2 H2) (hr.deeper _)).run [] _ _ H2 Q J ⟨φ3, owl, S3, _, Rl, ?_⟩) (fun v s' hq => ?_) fun e s' hq => hq)
          · unfold lamF at qf
            show PostR (gX X T) _ _ _ φ3 owl _ _ H2 (mb (setEn (hideE env) ix ds) S3) Q
            cases eb : mb (setEn (hideE env) ix ds) S3 with
            | ok d S' =>
              rw [eb] at qf
              intro φ' H' v R' s' p' r'
              have r'' : Rep (gX X T) φ' (mutA ((F.callee φ ow H).callee φ3 ow2 H2) φ' owl) H' v d := r'
              rw [em φ'] at r''
              exact qf φ' H' v R'.drop r''
            | exn c p S' =>
              rw [eb] at qf
              intro φ' H' cls dd R' s' p' x
              rw [em φ'] at x
              exact qf φ' H' cls dd R'.drop x
            | stuck => rw [eb] at qf; exact qf
          · obtain ⟨w', H', J', rv, q⟩ := hq
            exact ⟨w', H', J'.os, J'.bare, J'.base, J'.hok, rv, q⟩
        have hx : PassesAt (L2.CX X.prog X.w) ((cxC X Ng qg sg g cdg s H Eg).tr pn xe) σZ (WE W σZ) := passAt tk σZ
        refine wpAny_call (codeAny_mono rc fun r s' hq => ?_)
        cases r with
        | error e => exact hx pinsZ H2 s2 e s' I2 hq
        | ok fl =>
          cases fl with
          | ret u => exact I2.after hq
          | next => exact False.elim hq
          | brk => exact False.elim hq
          | cont => exact False.elim hq
    · exact q.elim
  · exact q.elim
end
end DL
set_option Elab.async false
set_option linter.all false
set_option maxRecDepth 100000
set_option maxHeartbeats 1000000
/-! DX8: g(e, .., lambda) -/
namespace DL
open PySem PySem.Spec PyProof.Rows L2 LamX
/-- a call of the name a, which holds the lambda at f -/
def Acts (Z : Cx) (T : List (Addr × Str)) (F : Fr) (i : Nat) (f : Addr) (nl : Nat) (a : Str) (act : MF) : Prop :=
  ∀ (pn : List (Addr × Obj)) (xe : Value → Shared → Prop) (W : WX), Takes (Z.tr pn xe) W → ∀ (ml : M (List D)) (es : List Expr) (p1 p2 : Pos), SCf (Z.tr pn xe) T F W ml es → SE (Z.tr pn xe) T F W (mApp i f nl act ml) (.Call (.Name a p1) es [] p2)
/-- a def whose last parameter holds a lambda of nl parameters -/
structure DefL (P : Program) (w : World) (K : PySem.W.Frag) (mg : Str → Option Value) (base : Heap) (T : List (Addr × Str)) (k : Nat) (x : Str) (params : Arguments) (body : List Stmt) (scope : Scope) (N ps : List Str) (np nl : Nat) (a : Str) (m : MF → MF) : Prop where
  ex : ∃ (g : Addr) (gd : FuncData), FunD K x x params body scope [] [] g gd ∧ mg x = some (.ref g)
  sc : FnScope N ps scope
  pl : ps.length = np + 1
  ai : N[np]? = some a
  av : Vis scope a
  ad : (a == ("__debug__" : Str)) = false
  ac : (a == ("__classdict__" : Str)) = false
  bd : ∀ (kV doc pm : Value) (an : Option Addr) (cdv ct : Value) (us : List Value), us.length = np + 1 → bindArgs (PySem.W.fnOf x x params body scope .none kV doc pm an cdv ct) ⟨us, []⟩ = pure (ps.zip us)
  run : ∀ (g : Addr) (cdv : Value) (A : Around) (outer : List Env) (s : Shared) (H : Hp) (E : XK) (F : Fr) (f : Addr) (act : MF), Room k (A.deeper (envOfC x scope s.heap.objs.size g cdv)) →
    Acts (cxOf (L2.CX P w) P w K mg base N x scope g cdv A outer s H E) T F np f nl a act →
    ∃ mb, SSs (cxOf (L2.CX P w) P w K mg base N x scope g cdv A outer s H E) T F (fun cls d _ H => E cls d H) mb body ∧ ∀ ds S, ds.length = np → m act ds S ≠ .stuck → runF N.length mb (ds ++ [.adr f]) S = m act ds S
/-- g(.., lambda): the lambda's parameters' slots are ix -/
def mLamC (np : Nat) (ix : List Nat) (mb : M D) (m : MF → MF) (ml : M (List D)) : M D := fun env S => (ml env S).bnd fun ds S1 => if ds.length = np then m (lamF env ix mb) ds S1 else .stuck
section
variable {X : Cx} {T : List (Addr × Str)} {F : Fr} {W : WX}
theorem se_lam {k kb : Nat} {x a : Str} {pg : Arguments} {bg : List Stmt} {sg scope : Scope} {Ng qs : List Str} {np : Nat} {m : MF → MF} {c P : Addr} {params : Arguments} {body : Expr} {ps : List Str} {ix : List Nat} {mb : M D} {ml : M (List D)} {es rest : List Expr} {e0 : Expr} {p lpos pos : Pos}
    (G : DefL X.prog X.w X.K X.mg X.base T k x pg bg sg Ng qs np ps.length a m) (hr : Room (k + 1) X.A) (hr2 : Room (kb + 2) X.A) (tk : Takes X W) (hg : Gl X x) (L : LamP X.env.scope scope ps) (hN : X.N.Nodup) (hnd : ps.Nodup) (hix : ∀ (j : Nat) p, ps[j]? = some p → ∃ i, ix[j]? = some i ∧ X.N[i]? = some p) (hlx : ix.length = ps.length)
    (TB : TabB X.base X.mg c P) (hcode : X.env.code = .ref c) (hmT : (P, X.env.qual ++ "<lambda>") ∈ T) (hu : ∀ p ∈ T, p.1 = P → p.2 = X.env.qual ++ "<lambda>") (hdef : defaultsOf params X.env = ([], []))
    (hbind : ∀ (q : Str) (cl : List (Str × Addr)) (pm cv ctv : Value) (us : List Value), us.length = ps.length → bindArgs (PySem.W.kla_fn "<lambda>" q params body scope cl pm cv ctv) ⟨us, []⟩ = pure (ps.zip us))
    (hbody : ∀ (A : Around) (outer : List Env) (s : Shared) (H : Hp) (E : XK) (f c' : Addr) (F' : Fr), Room kb (A.deeper (lamEnv X scope s.heap.objs.size f c')) → SE (lamCx X A outer s H E scope f c') T F' (fun cls d _ H => E cls d H) mb body)
    (ha : SAt X T F W ml es [.Lambda params body scope lpos]) (hal : e0 :: rest = es ++ [.Lambda params body scope lpos]) (hdb : (x == ("__debug__" : Str)) = false := by decide)
    (he : starEach (e0 :: rest) X.env = (false, eval e0 X.env) :: starEach rest X.env := by rfl) (hpl : (backTo pos (starEach rest X.env)).any (·.1) = false := by rfl) :
    SE X T F W (mLamC np ix mb m ml) (.Call (.Name x p) (e0 :: rest) [] pos) := by
  refine ⟨fun pins s σ H Q I h => ?_⟩
  obtain ⟨φ, ow, S, env, R, q⟩ := h
  obtain ⟨g, gd, Fd, hm⟩ := G.ex
  obtain ⟨oc, od, dV, kV, doc, pm, an, cdv, ct, osl, rfl, lk, hcd, hD, hK⟩ := Fd.ex
  have hdV : dV = .none := by
    rcases hD with ⟨_, e⟩ | ⟨e, _⟩
    · exact e
    · exact absurd rfl e
  subst hdV
  refine wpAny_Call_Name_kw (ld_glob I hg hm ?_ hdb)
  refine PySem.W.callWith_K (h₀ := X.base) I.ok.mod.kin Fd.kp ?_ he hpl
  rw [hal]
  obtain ⟨t, C, hC⟩ := ha
  refine C.run pos pins s σ H (fun vs H1 => ∃ φ1 S1 ds, Rel (gX X T) F φ1 ow S1 env σ H1 ∧ RepL (gX X T) φ1 (mutA F φ1 ow) H1 vs ds ∧ ds.length = np ∧ PostR (gX X T) F W (rpD (gX X T)) φ1 ow env σ H1 (m (lamF env ix mb) ds S1) Q) _ I (hC _ _ _ (lift_bnd R q fun ds S1 φ1 H1 vs R1 s1 p1 r1 q1 => ?_)) fun us s1 vs H1 I1 rv hR => ?_
  · split at q1
    · rename_i hl
      exact ⟨φ1, S1, ds, R1, r1, hl, q1⟩
    · exact q1.elim
  · obtain ⟨φ1, S1, ds, R1, r1, hl, q1⟩ := hR
    show wpAny _ _ (spliced ((false, eval (.Lambda params body scope lpos) X.env) :: backTo pos (starEach [] X.env))) _ _ s1
    have hfree : ∀ y ∈ scope.names, y.2 = .free → ∃ c, X.env.cells.lookup y.1 = some c := fun y hy e => (L.free y hy e).elim (fun k => I1.ok.has _ (.inl k)) fun k => I1.ok.has _ (.inr k)
    refine Calls.spliced_cons (lam_make2 I1 TB hcode hmT hu R1.tabs hdef hfree fun f c' pm' ctv H2 s' I2 eN T2 hf hfn hfr hco => ?_)
    refine Calls.spliced_nil ⟨I2.kIn, ?_⟩
    have R2 := R1.ext eN T2
    have r2 : RepL (gX X T) φ1 (mutA F φ1 ow) H2 vs ds := r1.st (stp_ext eN) (List.prefix_refl _)
    have q2 : PostR (gX X T) F W (rpD (gX X T)) φ1 ow env σ H2 (m (lamF env ix mb) ds S1) Q := PostR.go q1 (stp_ext eN) (List.prefix_refl _)
    have hvl : vs.length = np := (RepL.length r1).trans hl
    have hul : us.length = np := rv.length.symm.trans hvl
    have hns : m (lamF env ix mb) ds S1 ≠ .stuck := fun z => by rw [z] at q2; exact q2
    have qf := PostR.callee R2 q2
    have rc : codeAny (model X.prog X.w) X.A (.call (.ref g) ⟨us ++ [.ref f], []⟩) (CR (L2.CX X.prog X.w) X.stack X.prog X.w H2 s' Q (WE W σ)) s' := by
      refine run_ofS (N := Ng) (ps := qs) (us := us ++ [.ref f]) (vs := vs ++ [.ref f]) lk hcd G.sc hr I2.env0 (.of_eq (G.bd _ _ _ _ _ _ _ (by rw [List.length_append, hul]; rfl))) (rv.append (.cons (show RelV (.ref f) (.ref f) from rfl) .nil)) (by rw [List.length_append, hvl, G.pl]; rfl) fun hr' => ?_
      obtain ⟨mbd, hs, hq⟩ := G.run g cdv X.A X.stack s' H2 (WE W σ) (F.callee φ1 ow H2) f (lamF env ix mb) hr' fun pn xe W' tk' ml' es' p1 p2 ha' =>
        se_act I2 R2 L hN hnd hix hlx hf hfn hfr hco (fun us hu => hbind _ _ _ _ _ us hu) tk' (hr2.deeper _) hbody ha' G.ai G.av G.ad G.ac
      refine ⟨_, hs, ?_⟩
      have em := hq ds S1 hl hns
      rw [← em] at qf
      have rr : RepL (gX X T) φ1 (mutA (F.callee φ1 ow H2) φ1 ow0) H2 (vs ++ [.ref f]) (ds ++ [.adr f]) := by
        rw [mut_callee]
        exact r2.app (.cons (.adr f) .nil)
      obtain ⟨R3, e3⟩ := R2.enter.start (N := Ng) rr
      refine ⟨φ1, _, S1, _, R3, ?_⟩
      unfold runF at qf
      show PostS (gX X T) (F.callee φ1 ow H2) _ φ1 _ H2 (mbd (startE Ng.length (ds ++ [.adr f])) S1) { nx := fun _ H' => Q .non H', rt := Q }
      cases eb : mbd (startE Ng.length (ds ++ [.adr f])) S1 with
      | nx e S' =>
        rw [eb] at qf
        exact fun φ' ow' σ' H' R' s' p' => qf φ' H' .non R'.drop .non
      | rt d S' =>
        rw [eb] at qf
        exact fun φ' H' v R' rp => qf φ' H' v R' rp
      | exn c p e S' =>
        rw [eb] at qf
        intro φ' ow' σ' H' cls dd R' _ _ x
        refine qf φ' H' cls dd R'.drop ?_
        obtain ⟨x1, x2⟩ := x
        refine ⟨x1, ?_⟩
        cases p with
        | none => exact x2
        | some fd =>
          obtain ⟨y, v, k1, k2, k4, k3⟩ := x2
          exact ⟨y, v, k1, k2, (stp_end y _ (fun _ z => by cases z) k2 k4).2, k3.st stp_end (List.prefix_refl _)⟩
      | bk e S' => rw [eb] at qf; exact qf.elim
      | ct e S' => rw [eb] at qf; exact qf.elim
      | stuck => rw [eb] at qf; exact qf.elim
    have hx : PassesAt (L2.CX X.prog X.w) X σ (WE W σ) := passAt tk σ
    refine wpAny_call (codeAny_mono rc fun r s2 hq => ?_)
    cases r with
    | error e => exact hx pins H2 s' e s2 I2 hq
    | ok fl =>
      cases fl with
      | ret u => exact I2.after hq
      | next => exact False.elim hq
      | brk => exact False.elim hq
      | cont => exact False.elim hq
end
end DL
set_option Elab.async false
set_option linter.all false
set_option maxRecDepth 100000
set_option maxHeartbeats 1000000
/-! DY1: enumerate of a tuple or list, zip of tuples and lists mixed -/
namespace DY
open PySem PySem.Spec PyProof.Rows L2
/-- tuple (true) or list (false) -/
def SqI (t : Bool) (h : Heap) (l : Addr) (xs : Array Value) : Prop := match t with
  | true => h.IsTuple l xs
  | false => h.IsList l xs
def ItI (t : Bool) (h : Heap) (it l : Addr) (k : Nat) : Prop := match t with
  | true => h.IsTupleIter it l k
  | false => h.IsListIter it l k
def itO (t : Bool) (l : Addr) : Obj := match t with
  | true => { cls := .type "tuple_iterator", data := .fields #[.ref l, .int 0 0] }
  | false => { cls := .type "list_iterator", data := .fields #[.ref l, .int 0 0] }
theorem begK (t : Bool) (l : Addr) (xs : Array Value) : Begins (.ref l) (itO t l) fun h => SqI t h l xs := by
  cases t
  · exact begins_list l xs
  · exact begins_tuple l xs
theorem drwK {prog : Program} {w : World} {A : Around} (t : Bool) (hh : A.handled = none) (it l : Addr) (hne : l ≠ it) (xs : Array Value) :
    Draws prog w A it [it, l] xs.size (fun i v => xs[i]? = some v) (fun i h => ItI t h it l i ∧ SqI t h l xs) := by
  cases t
  · exact Draws.list hh it l hne xs
  · exact Draws.tuple hh it l hne xs
theorem ItI.obj {t : Bool} {h : Heap} {it l : Addr} {k : Nat} (x : ItI t h it l k) : ∃ o, h.get? it = some o ∧ ∀ v, o.data ≠ .cell v := by
  cases t
  · obtain ⟨o, e, _, d⟩ := x
    exact ⟨o, e, fun v q => by rw [d] at q; cases q⟩
  · obtain ⟨o, e, _, d⟩ := x
    exact ⟨o, e, fun v q => by rw [d] at q; cases q⟩
theorem ItI.keep {t : Bool} {h h' : Heap} {it l : Addr} {k : Nat} (x : ItI t h it l k) (q : ∀ o, h.get? it = some o → h'.get? it = some o) : ItI t h' it l k := by
  cases t
  · obtain ⟨o, e, r⟩ := x
    exact ⟨o, q o e, r⟩
  · obtain ⟨o, e, r⟩ := x
    exact ⟨o, q o e, r⟩
theorem itI_new {t : Bool} {h : Heap} {it l : Addr} (e : h.get? it = some (itO t l)) : ItI t h it l 0 := by
  cases t
  · exact ⟨_, e, rfl, rfl⟩
  · exact ⟨_, e, rfl, rfl⟩
/-- .. of the layer's heap -/
def SqK (t : Bool) (K : PySem.W.Frag) (H : Hp) (a : Addr) (xs : List V) : Prop := match t with
  | true => SqT K H a xs
  | false => SqL K H a xs
section
variable {X : Cx} {pins : List (Addr × Obj)} {σ : L2.St} {H : Hp} {s : Shared} {a : Addr} {xs ys : List V} {t : Bool}
theorem seqK (I : Inv X pins σ H s) (h : SqK t X.K H a xs) : ∃ its : List Value, Vals xs its ∧ SqI t s.heap a its.toArray := by
  cases t
  · obtain ⟨its, r, p, _⟩ := I.list h
    exact ⟨its, r, p.isList⟩
  · obtain ⟨its, r, p, _⟩ := I.tuple h
    exact ⟨its, r, p⟩
theorem seqK_inj (I : Inv X pins σ H s) (h : SqK t X.K H a xs) (h' : SqK t X.K H a ys) : xs = ys := by
  cases t
  · exact I.list_inj h h'
  · exact I.tuple_inj h h'
theorem SqI.lt {t : Bool} {h : Heap} {l : Addr} {xs : Array Value} (x : SqI t h l xs) : l < h.objs.size := by
  cases t
  · obtain ⟨o, e, _⟩ := x
    exact Heap.lt_size e
  · obtain ⟨o, e, _⟩ := x
    exact Heap.lt_size e
end
/-! ### enumerate -/
def ItE (t : Bool) (K : PySem.W.Frag) (a : Addr) : It :=
  ⟨fun i H => ∃ (xs : List V) (x : V), SqK t K H a xs ∧ xs[i]? = some x, fun i H v H' => ∃ T x, v = .ref T ∧ H T = none ∧ H' = upd H T (.tup [.int (i : Nat), x]) ∧ ∀ xs, SqK t K H a xs → xs[i]? = some x, fun i H => ∃ xs : List V, SqK t K H a xs ∧ xs.length ≤ i⟩
theorem turn_en {P : Program} {w : World} {K : PySem.W.Frag} {elts : List Expr} {kk : Nat} {tpos : Pos} (t : Bool) (a e it : Addr) (hae : a ≠ e) (hai : a ≠ it) (hei : e ≠ it) :
    Turn P w K (.Tuple elts kk tpos) (ItE t K a) [e, it] e (fun i h => (∃ old, IsEnum h e it ((i : Nat) : Int) old) ∧ ItI t h it a i) where
  mem := by simp
  obj := fun i h st b hb => by
    obtain ⟨⟨old, he⟩, hi⟩ := st
    rcases (by simpa using hb : b = e ∨ b = it) with z | z
    · rw [z]
      exact ⟨_, he, fun v q => nomatch q⟩
    · rw [z]
      exact hi.obj
  keep := fun i h h' st k => ⟨by
    obtain ⟨⟨old, he⟩, _⟩ := st
    exact ⟨old, k e (by simp) _ he⟩, st.2.keep fun o q => k it (by simp) o q⟩
  item := by
    intro X hP hw hK hc i pins s σ H E I hf st hg
    subst hP hw hK
    obtain ⟨⟨old, he⟩, hit⟩ := st
    obtain ⟨xs, x, hq, hx⟩ := hg
    obtain ⟨its, rv, p⟩ := seqK I hq
    obtain ⟨u, hu, ru⟩ := rv.get hx
    have hel : e < s.heap.objs.size := Heap.lt_size he
    have hil : it < s.heap.objs.size := by
      obtain ⟨o, q, _⟩ := hit.obj
      exact Heap.lt_size q
    have hlt : i < its.toArray.size := by simpa using (List.getElem?_eq_some_iff.mp hu).1
    refine wpAny_pyNext_enum_itemC (c := (i : Int)) (drwK t (show X.A.in1.handled = none from I.ok.hd hc) it a hai its.toArray) he ⟨hit, p⟩ hlt hei (by simp [hei, hae.symm]) fun y h' tk hy ho hst hT hsz hk => ?_
    have ey : y = u := by
      have hy : its.toArray[i]? = some y := hy
      rw [List.getElem?_toArray, hu] at hy
      exact (Option.some.inj hy).symm
    subst ey
    refine ⟨_, rfl, wpAny_letOwnedTupleGo_enum (s := { s with heap := h', toks := tk + 1 }) ho fun h'' he' sb => ?_⟩
    have hT2 : h''.get? s.heap.objs.size = some { cls := .type "tuple", data := .seq #[.int i tk, y] } := (sb.2 _ (Nat.ne_of_gt hel)).trans hT
    have new : ObjOk X.prog X.w (upd H s.heap.objs.size (.tup [.int (i : Nat), x])) h'' s.heap.objs.size (.tup [.int (i : Nat), x]) :=
      ⟨by show 2 ≤ sizeLine; decide, [.int i tk, y], .cons ⟨_, rfl⟩ (.cons ru .nil), ⟨_, hT2, rfl, _, rfl⟩⟩
    have I1 : Inv X pins σ (upd H s.heap.objs.size (.tup [.int (i : Nat), x])) { s with heap := h'', toks := tk + 1 } :=
      I.turnedNew (ch := [e, it]) (fun b ob hb q => (sb.2 b (fun z => hb (by simp [z]))).trans (hk b ob (fun z => hb (by simp [z])) (fun z => hb (by simp [z])) q)) hf (Nat.le_refl _) new
    refine ⟨.ref s.heap.objs.size, _, I1, rfl, ⟨_, x, rfl, I.hok.fresh (Nat.le_refl _), rfl, fun ys hy => by rw [seqK_inj I hy hq]; exact hx⟩, ⟨⟨y, ?_⟩, hst.1.keep fun o q => (sb.2 it (Ne.symm hei)).trans q⟩, fun b hb => ?_⟩
    · have e1 : ((i + 1 : Nat) : Int) = (i : Int) + 1 := by omega
      rw [e1]
      exact he'
    · have hb' : b < s.heap.objs.size := by
        rcases (by simpa using hb : b = e ∨ b = it) with z | z
        · rw [z]; exact hel
        · rw [z]; exact hil
      rw [upd_ne (Nat.ne_of_lt hb')]
      exact (hf b hb).1
  done := by
    intro X hP hw hK hc i pins s σ H E I hf st hg
    subst hP hw hK
    obtain ⟨⟨old, he⟩, hit⟩ := st
    obtain ⟨xs, hq, hx⟩ := hg
    obtain ⟨its, rv, p⟩ := seqK I hq
    obtain ⟨f0, f1, f2, f3, f4, f5⟩ := hf it (by simp)
    have hl := rv.length
    have hh : X.A.handled = none := I.ok.hd hc
    cases t
    · exact wpAny_pyNext_enum_end hh he hit p (by simp; omega) fun h' eb => ⟨rfl, I.turned (t' := s.toks) (fun b o hb q => eb b o hb q) f0 f1 f3 f4 f5⟩
    · have hT : s.TypeIs (.ref e) "enumerate" := ⟨_, he, rfl⟩
      unfold pyNext
      refine wpAny_bind (wpAny_attempt (wpAny_callSpecial?_slot (name := Str.ofString "__next__") hT F.slot_enumerate_next (wpAny_call_entry F.slot_enumerate_next hT F.entry_enumerate_next ?_ (F.args_enumerate_next_1 _))))
      show wpAny _ _ (field (.ref e) 2 >>= _) _ _ _
      refine wpAny_bind (wpAny_field he rfl (x := .ref it) rfl ?_)
      refine wpAny_bind (RZ.nextOf_tuple_end (show X.A.in1.handled = none from hh) hit p (by simp; omega) fun h' x eb hx' => ?_)
      obtain ⟨o, ho, hcl⟩ := hx'
      refine wpAny_bind (wpAny_isInstance (T := "StopIteration") (b := true) ⟨o, ho, hcl⟩ isSubtype_stop ?_)
      exact wpAny_pure ⟨rfl, I.turned (t' := s.toks) (fun b o hb q => eb b o hb q) f0 f1 f3 f4 f5⟩
  self := fun A i s Q E st h => wpAny_pyIter_enum st.1.choose_spec h
theorem meets_en1 {v : Value} {o : Obj} {H : Heap → Prop} (B : Begins v o H) :
    Meets (Builtin.«enumerate.__new__» ⟨[.type "enumerate", v], []⟩) (fun _ R s => H s.heap ∧
      R (.ok (.ret (.ref (s.heap.push o).objs.size))) { s with heap := (s.heap.push o).push { cls := .type "enumerate", data := .fields #[.none, .bool false, .ref s.heap.objs.size, rawInt 0, .none, .none] } }) :=
  .of_wp fun prog w A R s h => by
    obtain ⟨hp, g, d, tk, os⟩ := s
    obtain ⟨h1, h⟩ := h
    have hsub := sub_enumerate
    have q1 : ∀ {A' : Around} {E : Value → Shared → Prop} {Q : Value → Shared → Prop}, Q (.ref hp.objs.size) ⟨hp.push o, g, d, tk, os⟩ → wpAny (model prog w) A' (pyIter v) Q E ⟨hp, g, d, tk, os⟩ :=
      fun q => B.iter prog w _ _ ⟨hp, g, d, tk, os⟩ _ h1 q
    wp_walk using q1
    refine wpAny_stack_any fun st => wpAny_pure ?_
    split
    · rename_i c _ _ _ _ _
      cases (c == Value.type "enumerate")
      · wp_walk using q1
        exact ⟨_, rfl, h⟩
      · wp_walk using q1
        exact ⟨_, rfl, h⟩
    · wp_walk using q1
      exact ⟨_, rfl, h⟩
section
variable {prog : Program} {w : World} {A : Around} {E : Value → Shared → Prop} {s : Shared}
theorem en_begins1 {v : Value} {o : Obj} {H : Heap → Prop} {Q : Value → Shared → Prop} (B : Begins v o H) (h1 : H s.heap)
    (h : ∀ h', IsEnum h' (s.heap.objs.size + 1) s.heap.objs.size 0 .none → h'.get? s.heap.objs.size = some o → h'.objs.size = s.heap.objs.size + 2 → (∀ b o, s.heap.get? b = some o → h'.get? b = some o) → Q (.ref (s.heap.objs.size + 1)) { s with heap := h' }) :
    wpAny (model prog w) A (call (.type "enumerate") [v]) Q E s := by
  refine callType_new F.called_enumerate (by decide) (F.typeCall_enumerate_1 _) (F.newCall_enumerate_1 _) (fun obj => F.args_object_init_2 obj _) F.entry_enumerate_new (meets_en1 B) ⟨h1, ?_⟩
  have hz : (s.heap.push o).objs.size = s.heap.objs.size + 1 := Heap.size_push ..
  show _ ∧ _
  rw [hz]
  have he : IsEnum ((s.heap.push o).push { cls := .type "enumerate", data := .fields #[.none, .bool false, .ref s.heap.objs.size, rawInt 0, .none, .none] }) (s.heap.objs.size + 1) s.heap.objs.size 0 .none := by
    have := Heap.get?_push_size (s.heap.push o) (o := { cls := .type "enumerate", data := .fields #[.none, .bool false, .ref s.heap.objs.size, rawInt 0, .none, .none] }) rfl
    rw [hz] at this
    exact this
  refine ⟨⟨_, he, rfl⟩, h _ he (Heap.get?_push_of_some _ (Heap.get?_push_size _ B.free)) (by rw [Heap.size_push, hz]) fun b o x => Heap.get?_push_of_some _ (Heap.get?_push_of_some _ x)⟩
end
def iEn (K : PySem.W.Frag) (ta : TA) : TI := fun σ H R => ta σ H fun vs H1 => ∃ t a xs, vs = [.ref a] ∧ SqK t K H1 a xs ∧ R (ItE t K a) H1
theorem pi_en {X : Cx} {e : Expr} {ta : TA} {p pos tpos : Pos} {elts : List Expr} {kk : Nat} (hg : Gl X "enumerate") (hm : X.mg "enumerate" = none) (ha : PA X [e] ta) (hs : starEach [e] X.env = [(false, eval e X.env)] := by rfl) :
    PI X (.Tuple elts kk tpos) (.Call (.Name "enumerate" p) [e] [] pos) (iEn X.K ta) := by
  refine ⟨fun pins s σ H R I h => ?_⟩
  refine Call_ (ld_blt I hg hm boot_enumerate (PyProof.Rows.callWith_type1 (thn (ha.run pos pins s σ H _ I h) fun us s1 ⟨vs, H1, I1, r1, q1⟩ => ?_) hs rfl))
  obtain ⟨t, a, xs, ex, hq, q⟩ := q1
  subst ex
  cases r1 with
  | cons r rr =>
    cases rr
    cases r
    obtain ⟨its, rv, p'⟩ := seqK I1 hq
    have hal := p'.lt
    refine en_begins1 (begK t a its.toArray) p' fun h' he hit hsz hk => wpAny_pyIter_enum he ?_
    have I2 : Inv X pins σ H1 { s1 with heap := h' } := I1.kept (t' := s1.toks) hk
    refine ⟨s1.heap.objs.size + 1, [s1.heap.objs.size + 1, s1.heap.objs.size], _, _, H1, rfl, I2, turn_en t a (s1.heap.objs.size + 1) s1.heap.objs.size (Nat.ne_of_lt (Nat.lt_succ_of_lt hal)) (Nat.ne_of_lt hal) (Nat.succ_ne_self _), ⟨⟨.none, he⟩, itI_new hit⟩, fun b hb => ?_, q⟩
    have hle : s1.heap.objs.size ≤ b := by
      rcases (by simpa using hb : b = s1.heap.objs.size + 1 ∨ b = s1.heap.objs.size) with z | z
      · rw [z]; exact Nat.le_add_right _ _
      · rw [z]; exact Nat.le_refl _
    exact I1.fpOk hle (I1.hok.fresh hle)
/-! ### zip -/
def ItZ (t u : Bool) (K : PySem.W.Frag) (a b : Addr) : It :=
  ⟨fun i H => ∃ (xs ys : List V) (x y : V), SqK t K H a xs ∧ SqK u K H b ys ∧ xs[i]? = some x ∧ ys[i]? = some y,
    fun i H v H' => ∃ T x y, v = .ref T ∧ H T = none ∧ H' = upd H T (.tup [x, y]) ∧ (∀ xs, SqK t K H a xs → xs[i]? = some x) ∧ ∀ ys, SqK u K H b ys → ys[i]? = some y,
    fun i H => ∃ xs ys : List V, SqK t K H a xs ∧ SqK u K H b ys ∧ i = min xs.length ys.length⟩
theorem turn_zp {P : Program} {w : World} {K : PySem.W.Frag} {elts : List Expr} {kk : Nat} {tpos : Pos} (t u : Bool) {a b z TI TO i1 i2 : Addr} (S : ZipSep2 z TI TO i1 i2 [i1, a] [i2, b]) (ne1 : a ≠ i1) (ne2 : b ≠ i2) :
    Turn P w K (.Tuple elts kk tpos) (ItZ t u K a b) [z, TI, TO, i1, i2] z (fun i h => IsZip h z TI TO .none ∧ IsTupOf2 h TI (.ref i1) (.ref i2) ∧ (∃ x y, IsTupOf2 h TO x y) ∧ ItI t h i1 a i ∧ ItI u h i2 b i) where
  mem := by simp
  obj := fun i h st c hc => by
    obtain ⟨hz, hTI, ⟨x, y, hTO⟩, h1, h2⟩ := st
    rcases (by simpa using hc : c = z ∨ c = TI ∨ c = TO ∨ c = i1 ∨ c = i2) with q | q | q | q | q
    · rw [q]; exact ⟨_, hz, fun v q => nomatch q⟩
    · rw [q]; exact ⟨_, hTI, fun v q => nomatch q⟩
    · rw [q]; exact ⟨_, hTO, fun v q => nomatch q⟩
    · rw [q]; exact h1.obj
    · rw [q]; exact h2.obj
  keep := fun i h h' st k => by
    obtain ⟨hz, hTI, ⟨x, y, hTO⟩, h1, h2⟩ := st
    exact ⟨k z (by simp) _ hz, k TI (by simp) _ hTI, ⟨x, y, k TO (by simp) _ hTO⟩, h1.keep fun o q => k i1 (by simp) o q, h2.keep fun o q => k i2 (by simp) o q⟩
  item := by
    intro X hP hw hK hc i pins s σ H E I hf st hg
    subst hP hw hK
    obtain ⟨hz, hTI, ⟨x0, y0, hTO⟩, h1, h2⟩ := st
    obtain ⟨xs, ys, x, y, hqx, hqy, hx, hy⟩ := hg
    obtain ⟨its, rv, p⟩ := seqK I hqx
    obtain ⟨its2, rv2, p2⟩ := seqK I hqy
    obtain ⟨v1, hu, ru⟩ := rv.get hx
    obtain ⟨v2, hu2, ru2⟩ := rv2.get hy
    have l1 : i < its.toArray.size := by simpa using (List.getElem?_eq_some_iff.mp hu).1
    have l2 : i < its2.toArray.size := by simpa using (List.getElem?_eq_some_iff.mp hu2).1
    have hh : X.A.in1.handled = none := I.ok.hd hc
    have W := WalksT.zipD2 (prog := X.prog) (w := X.w) (A := X.A) S (drwK t hh i1 a ne1 its.toArray) (drwK u hh i2 b ne2 its2.toArray)
    have hzl : z < s.heap.objs.size := Heap.lt_size hz
    refine W.item i s _ _ (Nat.lt_min.mpr ⟨l1, l2⟩) ⟨hz, hTI, ⟨x0, y0, hTO⟩, ⟨h1, p⟩, ⟨h2, p2⟩⟩ fun T vals h' tk hv hT hTt hmid hk => ?_
    obtain ⟨w1, w2, e1, e2, rfl⟩ := hv
    rw [List.getElem?_toArray] at e1 e2
    have q1 : w1 = v1 := Option.some.inj (e1.symm.trans hu)
    have q2 : w2 = v2 := Option.some.inj (e2.symm.trans hu2)
    subst q1 q2
    refine ⟨_, rfl, W.go elts kk tpos i T { s with heap := h', toks := tk } _ _ hmid fun h'' hst hk2 => ?_⟩
    have nT := W.apart i T h' hmid
    obtain ⟨oT, hoT, hcT, n, hdT⟩ := hTt
    have hT2 : h''.get? T = some oT := hk2 _ _ nT hoT
    have sub5 : ∀ c, c ∉ [z, TI, TO, i1, i2] → c ∉ [z, TO, i1, i2] := fun c hc hm => hc (by
      rcases (by simpa using hm : c = z ∨ c = TO ∨ c = i1 ∨ c = i2) with q | q | q | q <;> simp [q])
    have new : ObjOk X.prog X.w (upd H T (.tup [x, y])) h'' T (.tup [x, y]) :=
      ⟨by show 2 ≤ sizeLine; decide, [w1, w2], .cons ru (.cons ru2 .nil), ⟨oT, hT2, hcT, n, hdT⟩⟩
    have I1 : Inv X pins σ (upd H T (.tup [x, y])) { s with heap := h'', toks := tk } :=
      I.turnedNew (ch := [z, TI, TO, i1, i2]) (fun c o hb q => hk2 c o (sub5 c hb) (hk c o (sub5 c hb) q)) hf hT new
    obtain ⟨z'', TI'', TO'', g1, g2⟩ := hst
    refine ⟨.ref T, _, I1, rfl, ⟨_, x, y, rfl, I.hok.fresh hT, rfl, fun l hl => by rw [seqK_inj I hl hqx]; exact hx, fun l hl => by rw [seqK_inj I hl hqy]; exact hy⟩, ⟨z'', TI'', TO'', g1.1, g2.1⟩, fun c hcm => ?_⟩
    have hlt : c < s.heap.objs.size := by
      rcases (by simpa using hcm : c = z ∨ c = TI ∨ c = TO ∨ c = i1 ∨ c = i2) with q | q | q | q | q
      · rw [q]; exact hzl
      · rw [q]; exact Heap.lt_size hTI
      · rw [q]; exact Heap.lt_size hTO
      · rw [q]
        obtain ⟨o, e, _⟩ := h1.obj
        exact Heap.lt_size e
      · rw [q]
        obtain ⟨o, e, _⟩ := h2.obj
        exact Heap.lt_size e
    rw [upd_ne (Nat.ne_of_lt (Nat.lt_of_lt_of_le hlt hT))]
    exact (hf c hcm).1
  done := by
    intro X hP hw hK hc i pins s σ H E I hf st hg
    subst hP hw hK
    obtain ⟨hz, hTI, hTO, h1, h2⟩ := st
    obtain ⟨xs, ys, hqx, hqy, rfl⟩ := hg
    obtain ⟨its, rv, p⟩ := seqK I hqx
    obtain ⟨its2, rv2, p2⟩ := seqK I hqy
    have hh : X.A.in1.handled = none := I.ok.hd hc
    have W := WalksT.zipD2 (prog := X.prog) (w := X.w) (A := X.A) S (drwK t hh i1 a ne1 its.toArray) (drwK u hh i2 b ne2 its2.toArray)
    have em : min its.toArray.size its2.toArray.size = min xs.length ys.length := by
      rw [List.size_toArray, List.size_toArray, rv.length, rv2.length]
    refine W.done s _ _ ?_ fun h' tk hk => ⟨rfl, I.turnedL (t' := tk) (ch := [z, TI, TO, i1, i2]) (fun c o hb q => hk c o (fun hm => hb (by
      rcases (by simpa using hm : c = z ∨ c = TO ∨ c = i1 ∨ c = i2) with q | q | q | q <;> simp [q])) q) hf⟩
    rw [em]
    exact ⟨hz, hTI, hTO, ⟨h1, p⟩, ⟨h2, p2⟩⟩
  self := fun A i s Q E st h => wpAny_pyIter_zip st.1 h
def iZp (K : PySem.W.Frag) (ta : TA) : TI := fun σ H R => ta σ H fun vs H1 => ∃ t u a b xs ys, vs = [.ref a, .ref b] ∧ SqK t K H1 a xs ∧ SqK u K H1 b ys ∧ R (ItZ t u K a b) H1
theorem pi_zp {X : Cx} {e e2 : Expr} {ta : TA} {p pos tpos : Pos} {elts : List Expr} {kk : Nat} (hg : Gl X "zip") (hm : X.mg "zip" = none) (ha : PA X [e, e2] ta)
    (hs : starEach [e, e2] X.env = (false, eval e X.env) :: starEach [e2] X.env := by rfl) (hpl : (backTo pos (starEach [e2] X.env)).any (·.1) = false := by rfl) :
    PI X (.Tuple elts kk tpos) (.Call (.Name "zip" p) [e, e2] [] pos) (iZp X.K ta) := by
  refine ⟨fun pins s σ H R I h => ?_⟩
  refine Call_ (ld_blt I hg hm PyProof.Rows.boot_zip (PyProof.Rows.callWith_type1 (thn (ha.run pos pins s σ H _ I h) fun us s1 ⟨vs, H1, I1, r1, q1⟩ => ?_) hs hpl))
  obtain ⟨t, u, a, b, xs, ys, ex, hqx, hqy, q⟩ := q1
  subst ex
  cases r1 with
  | cons r rr =>
    cases rr with
    | cons r' rr =>
      cases rr
      cases r
      cases r'
      obtain ⟨its, rv, p1⟩ := seqK I1 hqx
      obtain ⟨its2, rv2, p2⟩ := seqK I1 hqy
      refine zip_begins2 (begK t a its.toArray) (begK u b its2.toArray) p1 p2 fun h' hz hTI hTO g1 g2 hsz hk => wpAny_pyIter_zip hz ?_
      have I2 : Inv X pins σ H1 { s1 with heap := h' } := I1.kept (t' := s1.toks) hk
      have la : ∀ c ∈ [a], c < s1.heap.objs.size := fun c hc => by rw [List.mem_singleton.mp hc]; exact p1.lt
      have lb : ∀ c ∈ [b], c < s1.heap.objs.size := fun c hc => by rw [List.mem_singleton.mp hc]; exact p2.lt
      refine ⟨s1.heap.objs.size + 4, [s1.heap.objs.size + 4, s1.heap.objs.size + 2, s1.heap.objs.size + 3, s1.heap.objs.size, s1.heap.objs.size + 1], _, _, H1, rfl, I2, turn_zp t u (zip_sep2 la lb) (Nat.ne_of_lt p1.lt) (Nat.ne_of_lt (Nat.lt_succ_of_lt p2.lt)), ⟨hz, hTI, ⟨_, _, hTO⟩, itI_new g1, itI_new g2⟩, fun c hcm => ?_, q⟩
      have hle : s1.heap.objs.size ≤ c := by
        rcases (by simpa using hcm : c = s1.heap.objs.size + 4 ∨ c = s1.heap.objs.size + 2 ∨ c = s1.heap.objs.size + 3 ∨ c = s1.heap.objs.size ∨ c = s1.heap.objs.size + 1) with z | z | z | z | z
        · rw [z]; exact Nat.le_add_right _ _
        · rw [z]; exact Nat.le_add_right _ _
        · rw [z]; exact Nat.le_add_right _ _
        · rw [z]; exact Nat.le_refl _
        · rw [z]; exact Nat.le_add_right _ _
      exact I1.fpOk hle (I1.hok.fresh hle)
end DY
set_option Elab.async false
set_option linter.all false
set_option maxRecDepth 100000
set_option maxHeartbeats 1000000
/-! DY2: enumerate, zip, chains, parallel names, list.index, list.count by data -/
namespace DL
open PySem PySem.Spec PyProof.Rows L2
section
variable {X : Cx} {T : List (Addr × Str)} {F : Fr} {W : WX} {e e2 a b c : Expr} {es : List Expr} {pos p tpos : Pos} {elts : List Expr} {kk : Nat} {ma mb mc : M D} {ml : M (List D)} {G : Gd} {φ : List Addr} {U : Addr → Prop} {H : Hp}
def isTup : D → Bool
  | .tup _ => true
  | _ => false
theorem sq_of {x : V} {d : D} {ds : List D} (r : Rep G φ U H x d) (h : itemsL d = some ds) : ∃ y vs, x = .ref y ∧ DY.SqK (isTup d) G.K H y vs ∧ RepL G φ U H vs ds := by
  cases d with
  | tup es =>
    cases h
    obtain ⟨y, vs, rfl, k, rl⟩ := r.ofTup
    exact ⟨y, vs, rfl, k, rl⟩
  | lst es =>
    cases h
    obtain ⟨y, vs, rfl, k, _, rl⟩ := r.ofLst
    exact ⟨y, vs, rfl, .inl (.inl k), rl⟩
  | _ => cases h
def enumL (ds : List D) : List D := ds.mapIdx fun i d => D.tup [.int (i : Nat), d]
theorem it_en {y : Addr} {d : D} {ds : List D} (r : Rep G φ U H (.ref y) d) (h : itemsL d = some ds) : ItOk G φ U H (DY.ItE (isTup d) G.K y) (enumL ds) := fun φ1 U1 H1 st pf hU i => by
  obtain ⟨z, vs, e, k, rl⟩ := sq_of (r.st st pf) h
  cases e
  have hl : (enumL ds).length = ds.length := by simp [enumL]
  rw [hl]
  refine ⟨fun hi => ?_, fun hi => ⟨vs, k, by rw [rl.length, hi]; exact Nat.le_refl _⟩, fun x H2 hi y => ?_⟩
  · obtain ⟨v, e, _⟩ := rl.get (List.getElem?_eq_getElem hi)
    exact ⟨vs, v, k, e⟩
  · obtain ⟨T, w, rfl, hT, rfl, hq⟩ := y
    obtain ⟨d', e1, r1⟩ := rl.at? (hq vs k)
    have nU : ¬ U1 T := fun z => hU T z hT
    refine ⟨same_upd hT, .tup [.int (i : Nat), d'], by simp [enumL, List.getElem?_mapIdx, e1], .tup upd_same nU ?_⟩
    exact .cons (.int _) (.cons (r1.st (stp_same (same_upd hT)) (List.prefix_refl _)) .nil)
def enumOf (_ : Sto) : List D → Option (List D)
  | [d] => (itemsL d).map enumL
  | _ => none
theorem si_enum (hg : Gl X "enumerate") (hm : X.mg "enumerate" = none) (ha : SA X T F W ml [e]) (hs : starEach [e] X.env = [(false, eval e X.env)] := by rfl) :
    SI X T F W (fun e S => (ml e S).bnd fun ds S1 => oR (enumOf S1 ds) S1) (.Tuple elts kk tpos) (.Call (.Name "enumerate" p) [e] [] pos) :=
  PI.imp (DY.pi_en hg hm ha hs) fun σ H R ⟨φ, ow, S, env, Rl, q⟩ => lift_bI Rl q fun ds S1 φ1 H1 vs R1 s1 p1 r1 q1 => by
    unfold enumOf at q1
    split at q1
    · rename_i d
      cases hd : itemsL d with
      | none => rw [hd] at q1; exact q1.elim
      | some xs =>
        rw [hd] at q1
        cases r1 with
        | cons ra rb =>
          cases rb
          obtain ⟨y, ws, rfl, k, rl⟩ := sq_of ra hd
          exact ⟨isTup d, y, ws, rfl, k, PostI.here q1 R1 (it_en ra hd)⟩
    · exact q1.elim
def zipL (xs ys : List D) : List D := List.zipWith (fun x y => D.tup [x, y]) xs ys
theorem it_zp {x y : Addr} {d d2 : D} {ds ds2 : List D} (r : Rep G φ U H (.ref x) d) (r2 : Rep G φ U H (.ref y) d2) (h : itemsL d = some ds) (h2 : itemsL d2 = some ds2) : ItOk G φ U H (DY.ItZ (isTup d) (isTup d2) G.K x y) (zipL ds ds2) := fun φ1 U1 H1 st pf hU i => by
  obtain ⟨z, vs, e, k, rl⟩ := sq_of (r.st st pf) h
  cases e
  obtain ⟨z2, vs2, e, k2, rl2⟩ := sq_of (r2.st st pf) h2
  cases e
  have hl : (zipL ds ds2).length = min ds.length ds2.length := by simp [zipL]
  rw [hl]
  refine ⟨fun hi => ?_, fun hi => ?_, fun x H2 hi y => ?_⟩
  · obtain ⟨v, e, _⟩ := rl.get (List.getElem?_eq_getElem (Nat.lt_of_lt_of_le hi (Nat.min_le_left _ _)))
    obtain ⟨v2, e2, _⟩ := rl2.get (List.getElem?_eq_getElem (Nat.lt_of_lt_of_le hi (Nat.min_le_right _ _)))
    exact ⟨vs, vs2, v, v2, k, k2, e, e2⟩
  · exact ⟨vs, vs2, k, k2, by rw [hi, rl.length, rl2.length]⟩
  · obtain ⟨T, w, w2, rfl, hT, rfl, hq, hq2⟩ := y
    obtain ⟨d', e1, r1⟩ := rl.at? (hq vs k)
    obtain ⟨d2', e2, r2⟩ := rl2.at? (hq2 vs2 k2)
    have nU : ¬ U1 T := fun z => hU T z hT
    refine ⟨same_upd hT, .tup [d', d2'], by simp [zipL, List.getElem?_zipWith, e1, e2], .tup upd_same nU ?_⟩
    exact .cons (r1.st (stp_same (same_upd hT)) (List.prefix_refl _)) (.cons (r2.st (stp_same (same_upd hT)) (List.prefix_refl _)) .nil)
def zipOf (_ : Sto) : List D → Option (List D)
  | [d, d2] => match itemsL d, itemsL d2 with
    | some x, some y => some (zipL x y)
    | _, _ => none
  | _ => none
theorem si_zip (hg : Gl X "zip") (hm : X.mg "zip" = none) (ha : SA X T F W ml [e, e2]) (hs : starEach [e, e2] X.env = (false, eval e X.env) :: starEach [e2] X.env := by rfl) (hpl : (backTo pos (starEach [e2] X.env)).any (·.1) = false := by rfl) :
    SI X T F W (fun e S => (ml e S).bnd fun ds S1 => oR (zipOf S1 ds) S1) (.Tuple elts kk tpos) (.Call (.Name "zip" p) [e, e2] [] pos) :=
  PI.imp (DY.pi_zp hg hm ha hs hpl) fun σ H R ⟨φ, ow, S, env, Rl, q⟩ => lift_bI Rl q fun ds S1 φ1 H1 vs R1 s1 p1 r1 q1 => by
    unfold zipOf at q1
    split at q1
    · rename_i d d2
      split at q1
      · rename_i xs ys hd hd2
        cases r1 with
        | cons ra rb =>
          cases rb with
          | cons rb rc =>
            cases rc
            obtain ⟨y, ws, rfl, k, rl⟩ := sq_of ra hd
            obtain ⟨y2, ws2, rfl, k2, rl2⟩ := sq_of rb hd2
            exact ⟨isTup d, isTup d2, y, y2, ws, ws2, rfl, k, k2, PostI.here q1 R1 (it_zp ra rb hd hd2)⟩
      · exact q1.elim
    · exact q1.elim
/-! ### a op b op c -/
def mChain (g g' : Sto → D → D → Option D) (ma mb mc : M D) : M D := fun env S => (ma env S).bnd fun a S1 => (mb env S1).bnd fun b S2 => (oR ((g S2 a b).bind dBool) S2).bnd fun k S3 => if k = true then (mc env S3).bnd fun c S4 => oR (g' S4 b c) S4 else .ok (.bl false) S3
theorem lift_chain {G : Gd} {r r' : R2} {g g' : Sto → D → D → Option D} (hd : OpD G r g) (hd' : OpD G r' g') (σ : L2.St) (H : Hp) (Q : VK) (h : LiftR G F W (rpD G) (mChain g g' ma mb mc) σ H Q) :
    tChain r r' (LiftR G F W (rpB G) ma) (LiftR G F W (rpB G) mb) (LiftR G F W (rpB G) mc) σ H Q := by
  obtain ⟨φ, ow, S, env, R, q⟩ := h
  refine lift_bnd R q fun a S1 φ1 H1 v1 R1 s1 p1 r1 q1 => lift_bnd R1 q1 fun b S2 φ2 H2 v2 R2 s2 p2 r2 q2 => ?_
  cases hg : g S2 a b with
  | none => rw [hg] at q2; exact q2.elim
  | some d =>
    cases d with
    | bl k =>
      rw [hg] at q2
      refine hd φ2 _ H2 S2 v1 v2 a b (.bl k) _ R2.cells (fun a => R2.mutT) ((r1.st s2 p2).h R2) (r2.h R2) hg fun z H3 sm rz => ⟨k, rz.ofBl, ?_⟩
      have R3 := R2.same sm
      have s3 := stp_same (U := mutA F φ2 ow) sm
      cases k with
      | false => exact PostR.grown (a := D.bl false) q2 R2 sm (.bl _)
      | true =>
        have q3 : PostR G F W (rpD G) φ2 ow env σ H2 ((mc env S2).bnd fun c S4 => oR (g' S4 b c) S4) Q := q2
        refine lift_bnd R3 (q3.go s3 (List.prefix_refl _)) fun c S4 φ4 H4 v4 R4 s4 p4 r4 q4 => ?_
        cases hg' : g' S4 b c with
        | none => rw [hg'] at q4; exact q4.elim
        | some d' =>
          rw [hg'] at q4
          exact hd' φ4 _ H4 S4 v2 v4 b c d' Q R4.cells (fun a => R4.mutT) (((r2.st s3 (List.prefix_refl _)).st s4 p4).h R4) (r4.h R4) hg' fun w H' sm rp => PostR.grown q4 R4 sm rp
    | _ => rw [hg] at q2; exact q2.elim
theorem se_chain {op op' : CmpOp} {r r' : R2} {g g' : Sto → D → D → Option D} (ho : OpR X (compareOp op) r) (ho' : OpR X (compareOp op') r') (hd : OpD (gX X T) r g) (hd' : OpD (gX X T) r' g') (ha : SB X T F W ma a) (hb : SB X T F W mb b) (hc : SB X T F W mc c)
    (hm : lastMarks [op, op'] [b, c] = false := by with_unfolding_all rfl) : SE X T F W (mChain g g' ma mb mc) (.Compare a [op, op'] [b, c] pos) := PE.imp (pe_chain ho ho' ha hb hc hm) (lift_chain hd hd')
theorem st_chain {op op' : CmpOp} {r r' : R2} {g g' : Sto → D → D → Option D} (ho : OpR X (compareOp op) r) (ho' : OpR X (compareOp op') r') (hd : OpD (gX X T) r g) (hd' : OpD (gX X T) r' g') (ha : SB X T F W ma a) (hb : SB X T F W mb b) (hc : SB X T F W mc c)
    (hm : lastMarks [op, op'] [b, c] = false := by with_unfolding_all rfl) : ST X T F W (mTest (mChain g g' ma mb mc)) (.Compare a [op, op'] [b, c] pos) := PT.imp (pt_chain ho ho' ha hb hc hm) fun σ H Q h => lift_test (lift_chain hd hd') σ H Q h
/-! ### a, b = x, y -/
def mPar (i j : Nat) (ml : M (List D)) : MS := fun e S => (ml e S).bndS e fun ds S1 => match ds with
  | [a, b] => .nx ((e.set i (.val a)).set j (.val b)) S1
  | _ => .stuck
theorem ss_par (i j : Nat) {x y : Str} {px py pt : Pos} {kt k2 pt2} (hc : X.calm = true) (hN : X.N.Nodup) (hi : X.N[i]? = some x) (hj : X.N[j]? = some y) (hij : i ≠ j)
    (hx : X.env.scope.names.lookup x = some .local) (hy : X.env.scope.names.lookup y = some .local) (ha : SA X T F W ml [a, b])
    (hw : swappedStores [.Tuple [.Name x px, .Name y py] kt pt] (.Tuple [a, b] k2 pt2) X.env = pure (some [x, y]) := by rfl)
    (hs : swapsWithSole [.Tuple [.Name x px, .Name y py] kt pt] (.Tuple [a, b] k2 pt2) pos.line X.env = pure false := by rfl) :
    SS X T F W (mPar i j ml) (.Assign [.Tuple [.Name x px, .Name y py] kt pt] (.Tuple [a, b] k2 pt2) pos) :=
  PS.imp (ps_par hc hN hi hj hij hx hy ha hw hs) fun D σ H ⟨φ, ow, S, env, R, q⟩ => lift_bS R q fun ds S1 φ1 H1 vs R1 s1 p1 r1 q1 => by
    split at q1
    · cases r1 with
      | cons ra rb =>
        cases rb with
        | cons rb rc =>
          cases rc
          have R2 := R1.setVal (i := i) (ra.st off_stp (List.prefix_refl _))
          have R3 := R2.setVal (i := j) ((rb.st off_stp (List.prefix_refl _)).st off_stp (List.prefix_refl _))
          exact ⟨_, _, rfl, q1 φ1 _ _ H1 R3 (off_stp.trans off_stp) (List.prefix_refl _)⟩
    · exact q1.elim
def mPar3 (i j l : Nat) (ml : M (List D)) : MS := fun e S => (ml e S).bndS e fun ds S1 => match ds with
  | [a, b, c] => .nx (((e.set i (.val a)).set j (.val b)).set l (.val c)) S1
  | _ => .stuck
theorem ss_par3 (i j l : Nat) {x y z : Str} {px py pz pt : Pos} {kt k2 pt2} (hc : X.calm = true) (hN : X.N.Nodup) (hi : X.N[i]? = some x) (hj : X.N[j]? = some y) (hl : X.N[l]? = some z) (hij : i ≠ j) (hil : i ≠ l) (hjl : j ≠ l)
    (hx : X.env.scope.names.lookup x = some .local) (hy : X.env.scope.names.lookup y = some .local) (hz : X.env.scope.names.lookup z = some .local) (ha : SA X T F W ml [a, b, c])
    (hw : swappedStores [.Tuple [.Name x px, .Name y py, .Name z pz] kt pt] (.Tuple [a, b, c] k2 pt2) X.env = pure (some [x, y, z]) := by rfl)
    (hs : swapsWithSole [.Tuple [.Name x px, .Name y py, .Name z pz] kt pt] (.Tuple [a, b, c] k2 pt2) pos.line X.env = pure false := by rfl) :
    SS X T F W (mPar3 i j l ml) (.Assign [.Tuple [.Name x px, .Name y py, .Name z pz] kt pt] (.Tuple [a, b, c] k2 pt2) pos) :=
  PS.imp (ps_par3 hc hN hi hj hl hij hil hjl hx hy hz ha hw hs) fun D σ H ⟨φ, ow, S, env, R, q⟩ => lift_bS R q fun ds S1 φ1 H1 vs R1 s1 p1 r1 q1 => by
    split at q1
    · cases r1 with
      | cons ra rb =>
        cases rb with
        | cons rb rc =>
          cases rc with
          | cons rc rd =>
          cases rd
          have R2 := R1.setVal (i := i) (ra.st off_stp (List.prefix_refl _))
          have R3 := R2.setVal (i := j) ((rb.st off_stp (List.prefix_refl _)).st off_stp (List.prefix_refl _))
          have R4 := R3.setVal (i := l) (((rc.st off_stp (List.prefix_refl _)).st off_stp (List.prefix_refl _)).st off_stp (List.prefix_refl _))
          exact ⟨_, _, _, rfl, q1 φ1 _ _ H1 R4 ((off_stp.trans off_stp).trans off_stp) (List.prefix_refl _)⟩
    · exact q1.elim
/-! ### {} -/
theorem se_emp : SE X T F W (mC .emp) (.Dict [] [] pos) := PE.imp pe_dnewK fun σ H Q ⟨φ, ow, S, env, R, q⟩ => fun p hp => PostR.grown (a := D.emp) q R (same_upd hp) (.emp upd_same (R.fresh hp))
/-! ### xs.index(k), xs.count(k), truth values -/
def rCntB (K : PySem.W.Frag) : V → List V → Hp → VK → Prop := fun x xs H Q => ∃ (p : Addr) (bs : List Bool) (k : Bool), x = .ref p ∧ xs = [.bl k] ∧ SqL K H p (bs.map V.bl) ∧ Q (.int (bs.count k : Nat)) H
theorem vals_bls : ∀ {bs : List Bool} {us : List Value}, Vals (bs.map V.bl) us → us = bs.map Value.bool
  | [], _, .nil => rfl
  | b :: bs, _, .cons r t => by
    cases r
    rw [vals_bls t]
    rfl
theorem mt_countB : MtR X "list.count" (rCntB X.K) := by
  intro pins s σ H x xs v us Q I rx rxs h
  obtain ⟨p, bs, k, rfl, rfl, hs, q⟩ := h
  cases rx
  obtain ⟨u, rfl, ru⟩ := rxs.one
  cases ru
  obtain ⟨its, rv, ⟨⟨cls, dd, data, sl⟩, n, ho, hc, hdn, hd⟩, hlen⟩ := I.list hs
  simp only at hc hd
  subst hc hd
  have hi := vals_bls rv
  subst hi
  refine call_meets PySem.F.slot_list_count ⟨_, ho, rfl⟩ PySem.F.entry_list_count (PySem.F.args_list_count_2 _ _)
    (SeqAt.list_countAt p (bs.map Value.bool).toArray n dd sl (.bool k) (fun u => u == .bool k)) ⟨ho, fun y hy => ?_, ?_⟩
  · obtain ⟨b, _, rfl⟩ := List.mem_map.mp (show y ∈ bs.map Value.bool by simpa using hy)
    have e : (Value.bool b == Value.bool k) = eqV (.bl b) (.bl k) := by cases b <;> cases k <;> rfl
    show SeqAt.EqAt _ s (.bool b) (.bool k) (Value.bool b == Value.bool k)
    rw [e]
    exact eqAt_V (y := .bl b) (x := .bl k) rfl rfl rfl rfl
  · refine ⟨.int (bs.count k : Nat), H, I.tok _, ⟨s.toks, ?_⟩, q⟩
    have ec : ((bs.map Value.bool).toArray.toList.countP fun u => u == .bool k) = bs.count k := by
      show (bs.map Value.bool).countP _ = _
      rw [List.countP_map, List.count]
      congr 1
      funext b
      cases b <;> cases k <;> rfl
    show Value.int _ _ = Value.int _ _
    rw [ec]
def cntB (es : List D) : List D → Option D
  | [.bl k] => (toBls es).map fun bs => .int (bs.count k : Nat)
  | _ => none
def idxB (es : List D) : List D → Option D
  | [.bl k] => (toBls es).bind fun bs => if k ∈ bs then some (.int (bs.idxOf k : Nat)) else none
  | _ => none
/-- a method of a list that is a datum -/
def mMethL (g : List D → List D → Option D) (mo : M D) (ml : M (List D)) : M D := fun env S => (mo env S).bnd fun o S1 => match o with
  | .lst es => (ml env S1).bnd fun ds S2 => oR (g es ds) S2
  | _ => .stuck
theorem lift_methL {G : Gd} {r : V → List V → Hp → VK → Prop} {g : List D → List D → Option D} {mo : M D}
    (hg : ∀ φ U H es ds d (a : Addr) vs ws (Q : VK), H a = some (.lst vs) → RepL G φ U H vs es → RepL G φ U H ws ds → g es ds = some d → (∀ w, Rep G φ U H w d → Q w H) → r (.ref a) ws H Q) (σ : L2.St) (H : Hp) (Q : VK) (h : LiftR G F W (rpD G) (mMethL g mo ml) σ H Q) :
    tBM G.K "list" r (LiftR G F W (rpD G) mo) (LiftR G F W (rpL G) ml) σ H Q := by
  obtain ⟨φ, ow, S, env, R, q⟩ := h
  refine lift_bnd R q fun od S1 φ1 H1 v R1 s1 p1 r1 q1 => ?_
  cases od with
  | lst es =>
    obtain ⟨a, vs, rfl, k, nk, rl⟩ := Rep.ofLst r1
    refine ⟨.inl ⟨rfl, vs, .inl (.inl k)⟩, ?_⟩
    have q1 : PostR G F W (rpD G) φ1 ow env σ H1 ((ml env S1).bnd fun ds S2 => oR (g es ds) S2) Q := q1
    refine lift_bnd R1 q1 fun ds S2 φ2 H2 ws R2 s2 p2 r2 q2 => ?_
    obtain ⟨k2, _⟩ := s2 _ _ nt_lst k nk
    cases hd : g es ds with
    | none => rw [hd] at q2; exact q2.elim
    | some d =>
      rw [hd] at q2
      exact hg φ2 _ H2 es ds d a vs ws Q k2 (rl.st s2 p2) r2 hd fun w rw' => PostR.here q2 R2 rw'
  | _ => exact q1.elim
theorem se_countB {o : Expr} {mo : M D} {apos : Pos} (ho : SE X T F W mo o) (ha : SA X T F W ml [e]) (hbase : attributeBase o "count" X.env (eval o X.env) = eval o X.env := by rfl)
    (hfew : ((backTo pos (starEach [e] X.env)).all (fun x => !x.1) && (backToKw pos (keywordEach [] X.env)).all (fun x => x.1.isSome) && decide ([e].length + ([] : List Keyword).length + (if ([] : List Keyword).isEmpty then 0 else 1) < 30)) = true := by rfl)
    (hline : (apos.endLine == pos.line) = true := by rfl) (hs : starEach [e] X.env = (false, eval e X.env) :: starEach [] X.env := by rfl) :
    SE X T F W (mMethL cntB mo ml) (.Call (.Attribute o "count" apos) [e] [] pos) :=
  PE.imp (pe_bm PySem.F.plainAttrs_list PySem.F.slot_list_count PySem.F.type_list_count mt_countB ho ha hbase hfew hline hs) (lift_methL fun φ U H es ds d a vs ws Q k rl rw' hd q => by
    unfold cntB at hd
    split at hd
    · rename_i kk
      cases hb : toBls es with
      | none => rw [hb] at hd; cases hd
      | some bs =>
        rw [hb] at hd
        cases hd
        cases rw' with
        | cons ra rb =>
          cases rb
          cases ra
          exact ⟨a, bs, kk, rfl, rfl, by rw [← toBls_ok rl hb]; exact .inl (.inl k), q _ (.int _)⟩
    · cases hd)
theorem se_indexB {o : Expr} {mo : M D} {apos : Pos} (ho : SE X T F W mo o) (ha : SA X T F W ml [e]) (hbase : attributeBase o "index" X.env (eval o X.env) = eval o X.env := by rfl)
    (hfew : ((backTo pos (starEach [e] X.env)).all (fun x => !x.1) && (backToKw pos (keywordEach [] X.env)).all (fun x => x.1.isSome) && decide ([e].length + ([] : List Keyword).length + (if ([] : List Keyword).isEmpty then 0 else 1) < 30)) = true := by rfl)
    (hline : (apos.endLine == pos.line) = true := by rfl) (hs : starEach [e] X.env = (false, eval e X.env) :: starEach [] X.env := by rfl) :
    SE X T F W (mMethL idxB mo ml) (.Call (.Attribute o "index" apos) [e] [] pos) :=
  PE.imp (pe_bm PySem.F.plainAttrs_list PySem.F.slot_list_index PySem.F.type_list_index mt_index ho ha hbase hfew hline hs) (lift_methL fun φ U H es ds d a vs ws Q k rl rw' hd q => by
    unfold idxB at hd
    split at hd
    · rename_i kk
      cases hb : toBls es with
      | none => rw [hb] at hd; cases hd
      | some bs =>
        rw [hb] at hd
        have hd : (if kk ∈ bs then some (D.int (bs.idxOf kk : Nat)) else none) = some d := hd
        split at hd
        · rename_i hm
          cases hd
          cases rw' with
          | cons ra rb =>
            cases rb
            cases ra
            have ev := toBls_ok rl hb
            have hlt := List.idxOf_lt_length_iff.mpr hm
            have e0 : bs[bs.idxOf kk]? = some kk := by
              rw [List.getElem?_eq_getElem hlt, List.getElem_idxOf]
            refine ⟨a, vs, .bl kk, bs.idxOf kk, .bl kk, rfl, rfl, .inl (.inl k), rfl, ?_, ?_, ?_, fun m z' hm' hz' => ?_, q _ (.int _)⟩
            · rw [ev, List.all_map]
              exact List.all_eq_true.mpr fun b _ => rfl
            · rw [ev, List.getElem?_map, e0]
              rfl
            · cases kk <;> rfl
            · rw [ev, List.getElem?_map] at hz'
              cases hb' : bs[m]? with
              | none => rw [hb'] at hz'; cases hz'
              | some b =>
                rw [hb'] at hz'
                cases hz'
                have hne : b ≠ kk := fun z => by
                  subst z
                  obtain ⟨h1, h2⟩ := List.getElem?_eq_some_iff.mp hb'
                  have h3 := List.not_of_lt_findIdx (p := (· == b)) (xs := bs) (show m < bs.findIdx (· == b) from hm')
                  simp [h2] at h3
                cases b <;> cases kk <;> first | rfl | exact absurd rfl hne
        · cases hd
    · cases hd)
end
end DL
set_option Elab.async false
set_option linter.all false
set_option maxRecDepth 100000
/-! DY3: short names for the printed texts -/
namespace DL
open PySem PySem.Spec PyProof.Rows L2 LamX
def mNewL (ml : M (List D)) : M (List D) := fun e S => (ml e S).bnd fun ds S1 => if ds.length ≤ 100000 then .ok ds S1 else .stuck
def mNewOf (ma : M D) : M (List D) := fun e S => (ma e S).bnd fun d S1 => oR (itemsAny S1 d) S1
def mNewAdd (ma mb : M D) : M (List D) := fun e S => (ma e S).bnd fun d S1 => (mb e S1).bnd fun d2 S2 => match lsOf S2 d, lsOf S2 d2 with
    | some x, some y => if x.length + y.length ≤ 100000 then .ok (x ++ y) S2 else .stuck
    | _, _ => .stuck
def mNewMul (ma mb : M D) : M (List D) := fun e S => (ma e S).bnd fun d S1 => (mb e S1).bnd fun d2 S2 => match lsOf S2 d, d2 with
    | some x, .int k => if -1000 ≤ k ∧ k ≤ 1000 ∧ x.length ≤ 1000 then .ok (List.replicate k.toNat x).flatten S2 else .stuck
    | _, _ => .stuck
def mItems (ma : M D) : M (List D) := fun e S => (ma e S).bnd fun d S1 => oR (itemsL d) S1
def mRng1 (ml : M (List D)) : M (List D) := fun e S => (ml e S).bnd fun ds S1 => oR (rng1 S1 ds) S1
def mRng2 (ml : M (List D)) : M (List D) := fun e S => (ml e S).bnd fun ds S1 => oR (rng2 S1 ds) S1
def mEnum (ml : M (List D)) : M (List D) := fun e S => (ml e S).bnd fun ds S1 => oR (enumOf S1 ds) S1
def mZip (ml : M (List D)) : M (List D) := fun e S => (ml e S).bnd fun ds S1 => oR (zipOf S1 ds) S1
def tabF (l : List (Str × Nat × MF)) (y : Str) : Option (Nat × MF) := (l.find? fun q => q.1 == y).map (·.2)
theorem tab_cases2 {mg : Str → Option Value} {R : Addr → Nat → MF → Prop} {x1 x2 y : Str} {n1 n2 n : Nat} {m1 m2 m : MF} (h : tabF [(x1, n1, m1), (x2, n2, m2)] y = some (n, m)) (c1 : ∃ f, mg x1 = some (.ref f) ∧ R f n1 m1) (c2 : ∃ f, mg x2 = some (.ref f) ∧ R f n2 m2) :
    ∃ f, mg y = some (.ref f) ∧ R f n m := by
  unfold tabF at h
  rw [List.find?_cons] at h
  cases e1 : (x1 == y) with
  | true =>
    simp only [e1] at h
    cases h
    rw [← beq_iff_eq.mp e1]
    exact c1
  | false =>
    simp only [e1, List.find?_cons] at h
    cases e2 : (x2 == y) with
    | true =>
      simp only [e2] at h
      cases h
      rw [← beq_iff_eq.mp e2]
      exact c2
    | false =>
      simp only [e2] at h
      cases h
/-- a def that is never to be called deeper -/
theorem fn_stuck {P : Program} {w : World} {K : PySem.W.Frag} {mg : Str → Option Value} {base : Heap} {T : List (Addr × Str)} {k n : Nat} {f : Addr} {fd : FuncData} {ps : List Str} (hn : ps.length = n) : FnOk P w K mg base (L2.CX P w) k f fd ps (spOf ⟨K, mg, T⟩ n fun _ _ => .stuck) :=
  ⟨fun _ _ _ _ h => h.1.trans hn.symm, fun _ _ _ _ _ _ _ _ _ _ _ _ _ h => by
    obtain ⟨_, _, _, _, _, _, _, h⟩ := h
    exact h.elim⟩
end DL
set_option Elab.async false
set_option linter.all false
set_option maxRecDepth 100000
/-! DY4: what never is reached; a field of a caught exception, if it has one -/
namespace DL
open PySem PySem.Spec PyProof.Rows L2 LamX
theorem se_never {X : Cx} {T : List (Addr × Str)} {F : Fr} {W : WX} {e : Expr} : SE X T F W (fun _ _ => .stuck) e := ⟨fun pins s σ H Q I h => by
  obtain ⟨φ, ow, S, env, R, q⟩ := h
  exact q.elim⟩
def mXfP (a dd : Addr) (p : Pay) (n : Str) (me : M D) : M D := match p with
  | none => fun _ _ => .stuck
  | some _ => mXf a dd n me
theorem se_xfP {X : Cx} {T : List (Addr × Str)} {F : Fr} {W : WX} {a C dd : Addr} {oe : Obj} {pn : List (Addr × Obj)} {p : Pay} {e : Expr} {pos : Pos} {me : M D} {n : Str} (C0 : XcC X.K C) (hno : PySem.W.findIn X.K (.ref C) n = some none) (hz : Zc (.ref C) (exDict dd p) oe) (hf : ∃ vs, oe.data = .fields vs)
    (he : SE (X.suite a ((a, oe) :: pn)) T F W me e) (hb : attributeBase e n X.env (eval e X.env) = eval e X.env := by rfl) : SE (X.suite a ((a, oe) :: pn)) T F W (mXfP a dd p n me) (.Attribute e n pos) := by
  cases p with
  | none => exact se_never
  | some fd => exact se_xf C0 hno hz hf he hb
end DL
set_option Elab.async false
set_option linter.all false
set_option maxRecDepth 100000
/-! DZ0: plain meanings, computed -/
namespace DL
open PySem PySem.Spec PyProof.Rows L2 LamX
section
variable {α β : Type} {e e1 : En} {S S1 : Sto} {ma mb mc : M D} {na nb : M Bool} {ml mk : M (List D)} {m1 m2 : MS} {i j k n : Nat} {d d2 : D} {ds : List D}
@[simp] theorem ev_bk {a : α} {f : α → Sto → Res β} : (Res.ok a S).bnd f = f a S := rfl
@[simp] theorem ev_bx {c p} {f : α → Sto → Res β} : (Res.exn c p S : Res α).bnd f = .exn c p S := rfl
@[simp] theorem ev_bs {f : α → Sto → Res β} : (Res.stuck : Res α).bnd f = .stuck := rfl
@[simp] theorem ev_sk {a : α} {f : α → Sto → RS} : (Res.ok a S).bndS e f = f a S := rfl
@[simp] theorem ev_sx {c p} {f : α → Sto → RS} : (Res.exn c p S : Res α).bndS e f = .exn c p e S := rfl
@[simp] theorem ev_ss {f : α → Sto → RS} : (Res.stuck : Res α).bndS e f = .stuck := rfl
@[simp] theorem ev_some {a : α} : oR (some a) S = .ok a S := rfl
@[simp] theorem ev_none : (oR none S : Res α) = .stuck := rfl
@[simp] theorem ev_var : mVar i e S = match e[i]? with | some (.val d) => .ok d S | _ => .stuck := rfl
@[simp] theorem ev_own : mOwn i e S = match e[i]? with | some (.own ds) => .ok (.lst ds) S | _ => .stuck := rfl
@[simp] theorem ev_c {a : α} : (mC a : M α) e S = .ok a S := rfl
@[simp] theorem ev_un {g} : mUn g ma e S = (ma e S).bnd fun a S1 => oR (g S1 a) S1 := rfl
@[simp] theorem ev_op {g} : mOp g ma mb e S = (ma e S).bnd fun a S1 => (mb e S1).bnd fun b S2 => oR (g S2 a b) S2 := rfl
@[simp] theorem ev_bool {b : Bool} : dBool (.bl b) = some b := rfl
@[simp] theorem ev_test : mTest ma e S = (ma e S).bnd fun d S1 => oR (dBool d) S1 := rfl
@[simp] theorem ev_and : mAnd ma mb e S = (ma e S).bnd fun a S1 => (oR (dBool a) S1).bnd fun b S2 => if b = true then mb e S2 else .ok (.bl false) S2 := rfl
@[simp] theorem ev_or : mOr ma mb e S = (ma e S).bnd fun a S1 => (oR (dBool a) S1).bnd fun b S2 => if b = true then .ok (.bl true) S2 else mb e S2 := rfl
@[simp] theorem ev_not : mNot ma e S = (ma e S).bnd fun a S1 => (oR (dBool a) S1).bnd fun b S2 => .ok (.bl (!b)) S2 := rfl
@[simp] theorem ev_andT : mAndT na nb e S = (na e S).bnd fun b S2 => if b = true then nb e S2 else .ok false S2 := rfl
@[simp] theorem ev_orT : mOrT na nb e S = (na e S).bnd fun b S2 => if b = true then .ok true S2 else nb e S2 := rfl
@[simp] theorem ev_notT : mNotT na e S = (na e S).bnd fun b S2 => .ok (!b) S2 := rfl
@[simp] theorem ev_if : mIf na ma mb e S = (na e S).bnd fun b S2 => if b = true then ma e S2 else mb e S2 := rfl
@[simp] theorem ev_nil : mNil e S = .ok [] S := rfl
@[simp] theorem ev_cons : mCons ma ml e S = (ma e S).bnd fun a S1 => (ml e S1).bnd fun r S2 => .ok (a :: r) S2 := rfl
@[simp] theorem ev_tup : mTup ml e S = (ml e S).bnd fun ds S1 => if ds.length ≤ 100000 then .ok (.tup ds) S1 else .stuck := rfl
@[simp] theorem ev_cb {g} : mCB g ml e S = (ml e S).bnd fun ds S1 => oR (g S1 ds) S1 := rfl
@[simp] theorem ev_sl {g} {nl nh : M (Option Int)} : mSl g ma nl nh e S = (ma e S).bnd fun a S1 => (nl e S1).bnd fun l S2 => (nh e S2).bnd fun h S3 => oR (g S3 a l h) S3 := rfl
@[simp] theorem ev_part : mPart ma e S = (ma e S).bnd fun d S1 => match d with | .int i => .ok (some i) S1 | _ => .stuck := rfl
@[simp] theorem ev_chain {g g'} : mChain g g' ma mb mc e S = (ma e S).bnd fun a S1 => (mb e S1).bnd fun b S2 => (oR ((g S2 a b).bind dBool) S2).bnd fun k S3 => if k = true then (mc e S3).bnd fun c S4 => oR (g' S4 b c) S4 else .ok (.bl false) S3 := rfl
@[simp] theorem ev_lsv : mLsV ml e S = (ml e S).bnd fun ds S1 => .ok (.lst ds) S1 := rfl
@[simp] theorem ev_call {np nk n : Nat} {ix : List Nat} {m : MF} : mCall np nk ix n m ml mk e S = (ml e S).bnd fun ds S1 => (mk e S1).bnd fun es S2 => if ds.length = np ∧ es.length = nk ∧ (pick ix (ds ++ es)).length = n then m (pick ix (ds ++ es)) S2 else .stuck := rfl
@[simp] theorem ev_lamc {np : Nat} {ix : List Nat} {m : MF → MF} : mLamC np ix mb m ml e S = (ml e S).bnd fun ds S1 => if ds.length = np then m (lamF e ix mb) ds S1 else .stuck := rfl
@[simp] theorem ev_app {f : Addr} {n : Nat} {act : MF} : mApp i f n act ml e S = match e[i]? with | some (.val (.adr f')) => if f' = f then (ml e S).bnd fun ds S1 => if ds.length = n then act ds S1 else .stuck else .stuck | _ => .stuck := rfl
@[simp] theorem ev_next : mNext e S = .nx e S := rfl
@[simp] theorem ev_seqN (h : m1 e S = .nx e1 S1) : mSeq m1 m2 e S = m2 e1 S1 := by unfold mSeq; rw [h]
@[simp] theorem ev_seq : mSeq m1 m2 e S = match m1 e S with | .nx e1 S1 => m2 e1 S1 | r => r := rfl
@[simp] theorem ev_ifs : mIfS na m1 m2 e S = (na e S).bndS e fun b S1 => if b = true then m1 e S1 else m2 e S1 := rfl
@[simp] theorem ev_ret : mRet ma e S = (ma e S).bndS e fun d S1 => .rt d S1 := rfl
@[simp] theorem ev_drop : mDrop ma e S = (ma e S).bndS e fun _ S1 => .nx e S1 := rfl
@[simp] theorem ev_set : mSet i ma e S = (ma e S).bndS e fun d S1 => .nx (e.set i (.val d)) S1 := rfl
@[simp] theorem ev_setOwn : mSetOwn i ml e S = (ml e S).bndS e fun ds S1 => if i < e.length then .nx (e.set i (.own ds)) S1 else .stuck := rfl
@[simp] theorem ev_retOwn : mRetOwn i e S = match e[i]? with | some (.own ds) => .rt (.lst ds) S | _ => .stuck := rfl
@[simp] theorem ev_par : mPar i j ml e S = (ml e S).bndS e fun ds S1 => match ds with | [a, b] => .nx ((e.set i (.val a)).set j (.val b)) S1 | _ => .stuck := rfl
@[simp] theorem ev_par3 : mPar3 i j k ml e S = (ml e S).bndS e fun ds S1 => match ds with | [a, b, c] => .nx (((e.set i (.val a)).set j (.val b)).set k (.val c)) S1 | _ => .stuck := rfl
@[simp] theorem ev_raise {x f : Str} : mRaise x f ma e S = (ma e S).bndS e fun d S1 => .exn x (some (f, d)) e S1 := rfl
@[simp] theorem ev_raise0 {x : Str} : mRaise0 x e S = .exn x none e S := rfl
@[simp] theorem ev_for {mi : M (List D)} {mg : MG} : mFor mi mg m1 e S = (mi e S).bndS e fun ds S1 => loopS (mBody mg m1) ds e S1 := rfl
@[simp] theorem ev_body {mg : MG} : mBody mg m1 d e S = match mg d e S with | .nx e1 S1 => m1 e1 S1 | .exn c p e1 S1 => .exn c p e1 S1 | _ => .stuck := rfl
@[simp] theorem ev_gname : mgName i d e S = .nx (e.set i (.val d)) S := rfl
@[simp] theorem ev_gnil : mgNil [] e S = .nx e S := rfl
@[simp] theorem ev_gcons {mg : MG} {mr} : mgCons mg mr (d :: ds) e S = match mg d e S with | .nx e1 S1 => mr ds e1 S1 | .exn c p e1 S1 => .exn c p e1 S1 | _ => .stuck := rfl
@[simp] theorem ev_gtup {mr} : mgTup n mr (.tup ds) e S = if ds.length = n then mr ds e S else .stuck := rfl
@[simp] theorem ev_asg {mg : MG} : mAsg ma mg e S = (ma e S).bndS e fun d S1 => match mg d e S1 with | .nx e1 S2 => .nx e1 S2 | .exn c p e1 S2 => .exn c p e1 S2 | _ => .stuck := rfl
@[simp] theorem ev_appOwn : mAppOwn k ma e S = match e[k]? with | some (.own ds) => (ma e S).bndS e fun d S1 => if ds.length < 100000 then .nx (e.set k (.own (ds ++ [d]))) S1 else .stuck | _ => .stuck := rfl
@[simp] theorem ev_loop0 {b : D → MS} : loopS b [] e S = .nx e S := rfl
@[simp] theorem ev_endn : endF (.nx e S) = .ok .non S := rfl
@[simp] theorem ev_endr : endF (.rt d S) = .ok d S := rfl
@[simp] theorem ev_endx {c p} : endF (.exn c p e S) = .exn c p S := rfl
@[simp] theorem ev_ends : endF .stuck = .stuck := rfl
@[simp] theorem ev_run {m : MS} : runF n m ds S = endF (m (startE n ds) S) := rfl
@[simp] theorem ev_newL : mNewL ml e S = (ml e S).bnd fun ds S1 => if ds.length ≤ 100000 then .ok ds S1 else .stuck := rfl
@[simp] theorem ev_newOf : mNewOf ma e S = (ma e S).bnd fun d S1 => oR (itemsAny S1 d) S1 := rfl
@[simp] theorem ev_newAdd : mNewAdd ma mb e S = (ma e S).bnd fun d S1 => (mb e S1).bnd fun d2 S2 => match lsOf S2 d, lsOf S2 d2 with | some x, some y => if x.length + y.length ≤ 100000 then .ok (x ++ y) S2 else .stuck | _, _ => .stuck := rfl
@[simp] theorem ev_newMul : mNewMul ma mb e S = (ma e S).bnd fun d S1 => (mb e S1).bnd fun d2 S2 => match lsOf S2 d, d2 with | some x, .int k => if -1000 ≤ k ∧ k ≤ 1000 ∧ x.length ≤ 1000 then .ok (List.replicate k.toNat x).flatten S2 else .stuck | _, _ => .stuck := rfl
@[simp] theorem ev_items : mItems ma e S = (ma e S).bnd fun d S1 => oR (itemsL d) S1 := rfl
@[simp] theorem ev_rng1 : mRng1 ml e S = (ml e S).bnd fun ds S1 => oR (rng1 S1 ds) S1 := rfl
@[simp] theorem ev_rng2 : mRng2 ml e S = (ml e S).bnd fun ds S1 => oR (rng2 S1 ds) S1 := rfl
@[simp] theorem ev_enum : mEnum ml e S = (ml e S).bnd fun ds S1 => oR (enumOf S1 ds) S1 := rfl
@[simp] theorem ev_zip : mZip ml e S = (ml e S).bnd fun ds S1 => oR (zipOf S1 ds) S1 := rfl
theorem eqv_int {i j : Int} : PyData.eqv (.int i) (.int j) = decide (i = j) := by
  first | rfl | (show (i == j) = decide (i = j); simp) | (simp [PyData.eqv]) | (unfold PyData.eqv; split <;> simp_all)
@[simp] theorem dEq_int {i j : Int} : dEq S (.int i) (.int j) = some (.bl (decide (i = j))) := by
  show (dEqB (.int i) (.int j)).map D.bl = _
  have : dEqB (.int i) (.int j) = some (PyData.eqv (.int i) (.int j)) := rfl
  rw [this, eqv_int]
  rfl
@[simp] theorem dNe_int {i j : Int} : dNe S (.int i) (.int j) = some (.bl (!decide (i = j))) := by
  have : dEqB (.int i) (.int j) = some (PyData.eqv (.int i) (.int j)) := rfl
  unfold dNe
  rw [this, eqv_int]
  rfl
@[simp] theorem dSub_int {i j : Int} : dSub S (.int i) (.int j) = some (.int (i - j)) := rfl
@[simp] theorem dAdd_int {i j : Int} : dAdd S (.int i) (.int j) = some (.int (i + j)) := rfl
@[simp] theorem dCmp_int {f : Int → Int → Bool} {i j : Int} : dCmp f S (.int i) (.int j) = some (.bl (f i j)) := rfl
@[simp] theorem lsOf_lst : lsOf S (.lst ds) = some ds := rfl
end
end DL
set_option Elab.async false
set_option linter.all false
set_option maxRecDepth 100000
/-! DZ1: comprehensions, loops, plain values -/
namespace DL
open PySem PySem.Spec PyProof.Rows L2 LamX
section
variable {S S1 : Sto} {ds : List D} {d : D}
theorem lc_gen {I : Sto → Prop} {body : D → Sto → Res (Option D)} {Q : D → Prop} : ∀ (ds : List D) (S : Sto) (acc : List D), I S → acc.length + ds.length ≤ 100000 → (∀ d ∈ ds, ∀ S, I S → ∃ y S', body d S = .ok (some y) S' ∧ I S' ∧ Q y) →
    ∃ ys S', lcL body ds S acc = .ok (acc ++ ys) S' ∧ I S' ∧ ys.length = ds.length ∧ ∀ y ∈ ys, Q y
  | [], S, acc, hI, _, _ => ⟨[], S, by simp [lcL], hI, rfl, by simp⟩
  | d :: ds, S, acc, hI, hl, h => by
    obtain ⟨y, S1, e1, i1, q1⟩ := h d (by simp) S hI
    obtain ⟨ys, S2, e2, i2, l2, q2⟩ := lc_gen ds S1 (acc ++ [y]) i1 (by simp at hl ⊢; omega) (fun d hd => h d (by simp [hd]))
    refine ⟨y :: ys, S2, ?_, i2, by simp [l2], fun z hz => ?_⟩
    · show (body d S).bnd _ = _
      rw [e1]
      show (if acc.length < 100000 then _ else _) = _
      rw [if_pos (by simp at hl; omega), e2]
      simp
    · rcases List.mem_cons.mp hz with rfl | hz
      · exact q1
      · exact q2 z hz
theorem lc_pure {body : D → Sto → Res (Option D)} {f : D → Option D} : ∀ (ds : List D) (S : Sto) (acc : List D), acc.length + ds.length ≤ 100000 → (∀ d ∈ ds, ∀ S, body d S = .ok (f d) S) → lcL body ds S acc = .ok (acc ++ ds.filterMap f) S
  | [], S, acc, _, _ => by simp [lcL]
  | d :: ds, S, acc, hl, h => by
    show (body d S).bnd _ = _
    rw [h d (by simp) S]
    show (match f d with | some x => if acc.length < 100000 then lcL body ds S (acc ++ [x]) else .stuck | none => lcL body ds S acc) = _
    rw [List.filterMap_cons]
    cases f d with
    | none => exact lc_pure ds S acc (by simp at hl; omega) (fun d hd => h d (by simp [hd]))
    | some x =>
      show (if acc.length < 100000 then _ else _) = _
      rw [if_pos (by simp at hl; omega), lc_pure ds S (acc ++ [x]) (by simp at hl ⊢; omega) (fun d hd => h d (by simp [hd]))]
      simp
theorem loop_gen {body : D → MS} {J : Nat → En → Sto → Prop} : ∀ (ds : List D) (k : Nat) (e : En) (S : Sto), J k e S → (∀ i d, ds[i]? = some d → ∀ e S, J (k + i) e S → ∃ e' S', body d e S = .nx e' S' ∧ J (k + i + 1) e' S') →
    ∃ e' S', loopS body ds e S = .nx e' S' ∧ J (k + ds.length) e' S'
  | [], k, e, S, h, _ => ⟨e, S, rfl, h⟩
  | d :: ds, k, e, S, h, hb => by
    obtain ⟨e1, S1, q1, j1⟩ := hb 0 d rfl e S h
    obtain ⟨e2, S2, q2, j2⟩ := loop_gen ds (k + 1) e1 S1 j1 (fun i d' hd e S hj => by
      have := hb (i + 1) d' (by simpa using hd) e S (by rw [show k + (i + 1) = k + 1 + i by omega]; exact hj)
      rw [show k + (i + 1) + 1 = k + 1 + i + 1 by omega] at this
      exact this)
    refine ⟨e2, S2, ?_, by rw [show k + (d :: ds).length = k + 1 + ds.length by simp; omega]; exact j2⟩
    show (match body d e S with | .nx e1 S1 => loopS body ds e1 S1 | .ct e1 S1 => loopS body ds e1 S1 | .bk e1 S1 => .nx e1 S1 | r => r) = _
    rw [q1]
    exact q2
/-- a datum with a type of its own -/
abbrev Pl (d : D) : Prop := tyName d ≠ none
theorem isi_ty {t a : String} (h : tyName d = some a) : dIsi t S d = (subTy a t).map .bl := by
  unfold dIsi
  rw [h]
  rfl
def isIntD : D → Bool
  | .int _ => true
  | _ => false
def isBlD : D → Bool
  | .bl _ => true
  | _ => false
def isTupD : D → Bool
  | .tup _ => true
  | _ => false
def isStrD : D → Bool
  | .str _ => true
  | _ => false
theorem pl_cases (h : Pl d) : tyName d = some "NoneType" ∨ tyName d = some "bool" ∨ tyName d = some "int" ∨ tyName d = some "str" ∨ tyName d = some "tuple" ∨ tyName d = some "list" ∨ tyName d = some "dict" := by
  cases d <;> first | exact absurd rfl h | simp [tyName]
@[simp] theorem isi_int (h : Pl d) : dIsi "int" S d = some (.bl (isIntD d || isBlD d)) := by
  cases d <;> first | exact absurd rfl h | rfl | (exact (isi_ty rfl).trans (by decide +kernel))
@[simp] theorem isi_bool (h : Pl d) : dIsi "bool" S d = some (.bl (isBlD d)) := by
  cases d <;> first | exact absurd rfl h | rfl | (exact (isi_ty rfl).trans (by decide +kernel))
@[simp] theorem isi_tup (h : Pl d) : dIsi "tuple" S d = some (.bl (isTupD d)) := by
  cases d <;> first | exact absurd rfl h | rfl | (exact (isi_ty rfl).trans (by decide +kernel))
@[simp] theorem isi_str (h : Pl d) : dIsi "str" S d = some (.bl (isStrD d)) := by
  cases d <;> first | exact absurd rfl h | rfl | (exact (isi_ty rfl).trans (by decide +kernel))
/-- a tuple of numbers -/
abbrev tI (l : List Int) : D := .tup (l.map .int)
theorem toInts_map : ∀ l : List Int, toInts (l.map D.int) = some l
  | [] => rfl
  | i :: l => by
    show (toInts (l.map D.int)).map (i :: ·) = _
    rw [toInts_map l]
    rfl
@[simp] theorem dSum_ints {l : List Int} : dSum S [.lst (l.map .int)] = some (.int l.sum) := by
  show ((toInts (l.map D.int)).map fun ns => D.int ns.sum) = _
  rw [toInts_map]
  rfl
@[simp] theorem dLen_tup : dLen S [.tup ds] = some (.int ds.length) := rfl
@[simp] theorem dLen_lst : dLen S [.lst ds] = some (.int ds.length) := rfl
@[simp] theorem dLen_scr {ns : List Int} : dLen S [.scr ns] = some (.int ns.length) := rfl
@[simp] theorem dInt_int {i : Int} : dInt S [.int i] = some (.int i) := rfl
theorem dMod_int {i j : Int} (h : 0 < j) : dMod S (.int i) (.int j) = some (.int (i % j)) := if_pos h
theorem dDiv_int {i j : Int} (h : 0 < j ∧ j < 1073741824) : dDiv S (.int i) (.int j) = some (.int (i / j)) := if_pos h
theorem dMul_int {i j : Int} (h : (-(2 ^ 64) < i ∧ i < 2 ^ 64) ∨ (-(2 ^ 64) < j ∧ j < 2 ^ 64)) : dMul S (.int i) (.int j) = some (.int (i * j)) := if_pos h
theorem dDivmod_int {i j : Int} (h : 0 < j ∧ j < 1073741824) : dDivmod S [.int i, .int j] = some (.tup [.int (i / j), .int (i % j)]) := if_pos h
theorem ixN_lt {n : Nat} {i : Int} (h0 : 0 ≤ i) (h1 : i < n) : ixN n i = some i.toNat := by
  unfold ixN
  rw [if_pos h0, if_pos h1]
theorem atI_lt {α : Type} {xs : List α} {i : Int} (h0 : 0 ≤ i) (h1 : i < xs.length) : ∃ x, atI xs i = some x ∧ xs[i.toNat]? = some x ∧ x ∈ xs := by
  have hi : i.toNat < xs.length := by omega
  refine ⟨xs[i.toNat], ?_, List.getElem?_eq_getElem hi, List.getElem_mem hi⟩
  unfold atI
  rw [ixN_lt h0 h1]
  exact List.getElem?_eq_getElem hi
theorem atI_nat {α : Type} {xs : List α} {k : Nat} (h1 : k < xs.length) : atI xs (k : Int) = some xs[k] := by
  unfold atI
  rw [ixN_lt (by omega) (by omega)]
  exact List.getElem?_eq_getElem h1
/-- the cell n is a bowl -/
def Bw (n : Nat) (S : Sto) : Prop := ∃ a b : Int, S[n]? = some (.lst [.int a, .int b])
/-- a draw, a generator: it ends, the bowl stays a bowl -/
def Gen {α : Type} (n : Nat) (r : Res α) (Q : α → Prop) : Prop := ∃ a S', r = .ok a S' ∧ Bw n S' ∧ Q a
theorem Gen.bnd {α β : Type} {n : Nat} {r : Res α} {Q : α → Prop} {f : α → Sto → Res β} {R : β → Prop} (h : Gen n r Q) (g : ∀ a S', Bw n S' → Q a → Gen n (f a S') R) : Gen n (r.bnd f) R := by
  obtain ⟨a, S', rfl, b, q⟩ := h
  exact g a S' b q
theorem Gen.ok {α : Type} {n : Nat} {a : α} {Q : α → Prop} (b : Bw n S) (q : Q a) : Gen n (.ok a S) Q := ⟨a, S, rfl, b, q⟩
theorem Gen.imp {α : Type} {n : Nat} {r : Res α} {Q R : α → Prop} (h : Gen n r Q) (g : ∀ a, Q a → R a) : Gen n r R := by
  obtain ⟨a, S', e, b, q⟩ := h
  exact ⟨a, S', e, b, g a q⟩
/-- .. of a statement's rest -/
theorem Gen.bndS {α : Type} {n : Nat} {e : En} {r : Res α} {Q : α → Prop} {f : α → Sto → RS} {R : D → Prop} {k : RS → Res D} (h : Gen n r Q) (g : ∀ a S', Bw n S' → Q a → Gen n (k (f a S')) R) : Gen n (k (r.bndS e f)) R := by
  obtain ⟨a, S', rfl, b, q⟩ := h
  exact g a S' b q
end
end DL
set_option Elab.async false
set_option linter.all false
set_option maxRecDepth 100000
/-! DZ2: comprehensions over mapped items, equality of flat lists, cuts -/
namespace DL
open PySem PySem.Spec PyProof.Rows L2 LamX
section
variable {S S1 : Sto} {ds : List D} {d : D} {e : En}
@[simp] theorem ev_lcn {sl : List Nat} {mi : M (List D)} {mg : MG} {mt : M Bool} {me : M D} : mLcN sl mi mg mt me e S = if noOwn e sl = true then (mi e S).bnd fun ds S1 => lcL (lcBody sl mg mt me e) ds S1 [] else .stuck := rfl
@[simp] theorem ev_lcb {sl : List Nat} {mg : MG} {mt : M Bool} {me : M D} : lcBody sl mg mt me e d S = match mg d (wipeE e sl) S with
  | .nx e1 S1 => (noX (mt e1 S1)).bnd fun b S2 => if b = true then (noX (me e1 S2)).bnd fun y S3 => .ok (some y) S3 else .ok none S2
  | _ => .stuck := rfl
@[simp] theorem ev_nox {α : Type} {a : α} : noX (Res.ok a S) = .ok a S := rfl
@[simp] theorem ev_wipe0 : wipeE e [] = e := rfl
@[simp] theorem ev_wipe1 {v : Nat} {vs : List Nat} : wipeE e (v :: vs) = (wipeE e vs).set v .hid := rfl
@[simp] theorem ev_gn2 {i j : Nat} {a b : D} : mgN2 i j [a, b] e S = .nx ((e.set i (.val a)).set j (.val b)) S := rfl
theorem lc_map {α : Type} {body : D → Sto → Res (Option D)} {g : α → D} {f : α → Option D} : ∀ (ks : List α) (S : Sto) (acc : List D), acc.length + ks.length ≤ 100000 → (∀ k ∈ ks, ∀ S, body (g k) S = .ok (f k) S) → lcL body (ks.map g) S acc = .ok (acc ++ ks.filterMap f) S
  | [], S, acc, _, _ => by simp [lcL]
  | k :: ks, S, acc, hl, h => by
    show (body (g k) S).bnd _ = _
    rw [h k (by simp) S]
    show (match f k with | some x => if acc.length < 100000 then lcL body (ks.map g) S (acc ++ [x]) else .stuck | none => lcL body (ks.map g) S acc) = _
    rw [List.filterMap_cons]
    cases f k with
    | none => exact lc_map ks S acc (by simp at hl; omega) (fun d hd => h d (by simp [hd]))
    | some x =>
      show (if acc.length < 100000 then _ else _) = _
      rw [if_pos (by simp at hl; omega), lc_map ks S (acc ++ [x]) (by simp at hl ⊢; omega) (fun d hd => h d (by simp [hd]))]
      simp
theorem toPys_ints : ∀ l : List Int, toPys (l.map D.int) = some (l.map PyData.int)
  | [] => rfl
  | i :: l => by
    rw [List.map_cons, toPys, toPys_ints l]
    rfl
theorem canLay_ints : ∀ l : List Int, PyData.canLayAll0 (l.map PyData.int) = true
  | [] => by simp only [List.map, PyData.canLayAll0]
  | n :: r => by simp only [List.map, PyData.canLayAll0, PyData.canLay0, canLay_ints r, Bool.and_self]
theorem depth_ints : ∀ l : List Int, PyData.depthAll (l.map PyData.int) = 0
  | [] => by simp only [List.map, PyData.depthAll]
  | n :: r => by simp only [List.map, PyData.depthAll, PyData.depth, depth_ints r, Nat.max_self]
theorem shp_list (l : List Int) : SeqAt.shaped (.list (l.map PyData.int)) = true := by
  unfold SeqAt.shaped
  simp only [PyData.canLay0, PyData.depth, canLay_ints, depth_ints]
  decide
theorem shp_tup (l : List Int) : SeqAt.shaped (.tuple (l.map PyData.int)) = true := by
  unfold SeqAt.shaped
  simp only [PyData.canLay0, PyData.depth, canLay_ints, depth_ints]
  decide
theorem eqv_ints : ∀ l m : List Int, PyData.eqvAll (l.map PyData.int) (m.map PyData.int) = decide (l = m)
  | [], [] => by simp [PyData.eqvAll]
  | [], _ :: _ => by simp [PyData.eqvAll]
  | _ :: _, [] => by simp [PyData.eqvAll]
  | a :: l, b :: m => by
    simp only [List.map, PyData.eqvAll, eqv_int, eqv_ints l m]
    by_cases h1 : a = b <;> by_cases h2 : l = m <;> simp [h1, h2]
theorem dEqB_lst {l m : List Int} : dEqB (.lst (l.map .int)) (.lst (m.map .int)) = some (decide (l = m)) := by
  unfold dEqB
  rw [toPy, toPy, toPys_ints, toPys_ints]
  show (if _ then _ else _) = _
  rw [if_pos ⟨shp_list l, shp_list m⟩, PyData.eqv, eqv_ints]
theorem dEqB_tup {l m : List Int} : dEqB (tI l) (tI m) = some (decide (l = m)) := by
  unfold dEqB
  rw [toPy, toPy, toPys_ints, toPys_ints]
  show (if _ then _ else _) = _
  rw [if_pos ⟨shp_tup l, shp_tup m⟩, PyData.eqv, eqv_ints]
theorem dEq_lst {l m : List Int} : dEq S (.lst (l.map .int)) (.lst (m.map .int)) = some (.bl (decide (l = m))) := by
  show (dEqB _ _).map D.bl = _
  rw [dEqB_lst]
  rfl
theorem dNe_lst {l m : List Int} : dNe S (.lst (l.map .int)) (.lst (m.map .int)) = some (.bl (!decide (l = m))) := by
  unfold dNe
  rw [dEqB_lst]
  rfl
theorem dEq_tup {l m : List Int} : dEq S (tI l) (tI m) = some (.bl (decide (l = m))) := by
  show (dEqB _ _).map D.bl = _
  rw [dEqB_tup]
  rfl
theorem dNe_tup {l m : List Int} : dNe S (tI l) (tI m) = some (.bl (!decide (l = m))) := by
  unfold dNe
  rw [dEqB_tup]
  rfl
theorem cut_mid {α : Type} (xs : List α) (i j : Nat) (h : i ≤ xs.length) : cutL xs (some (i : Int)) (some (j : Int)) = (xs.drop i).take (j - i) := by
  unfold cutL
  rw [HT.sIx_nat, HT.sIx_nat, Nat.min_eq_left h]
  by_cases hj : j ≤ xs.length
  · rw [Nat.min_eq_left hj]
  · rw [Nat.min_eq_right (by omega)]
    rw [List.take_of_length_le (i := xs.length - i) (by simp), List.take_of_length_le (i := j - i) (by simp; omega)]
theorem cut_to {α : Type} (xs : List α) (j : Nat) : cutL xs none (some (j : Int)) = xs.take j := by
  have := cut_mid xs 0 j (by omega)
  unfold cutL at this ⊢
  rw [HT.sIx_none]
  simpa [HT.sIx_nat] using this
theorem cut_from {α : Type} (xs : List α) (i : Nat) (h : i ≤ xs.length) : cutL xs (some (i : Int)) none = xs.drop i := by
  unfold cutL
  rw [HT.sIx_nat, Nat.min_eq_left h, HT.sIx_none, List.take_of_length_le (by simp)]
theorem cut_map {α β : Type} (f : α → β) (xs : List α) (a b : Option Int) : cutL (xs.map f) a b = (cutL xs a b).map f := by
  unfold cutL
  rw [List.length_map, ← List.map_drop, ← List.map_take]
@[simp] theorem dSl_tup {a b : Option Int} : dSl S (.tup ds) a b = some (.tup (cutL ds a b)) := rfl
@[simp] theorem dSl_lst {a b : Option Int} : dSl S (.lst ds) a b = some (.lst (cutL ds a b)) := rfl
@[simp] theorem dTuple_lst : dTuple S [.lst ds] = some (.tup ds) := rfl
@[simp] theorem dTuple_tup : dTuple S [.tup ds] = some (.tup ds) := rfl
theorem dIx_tI {l : List Int} {k : Nat} (h : k < l.length) : dIx S (tI l) (.int (k : Int)) = some (.int l[k]) := by
  show atI (l.map D.int) (k : Int) = _
  rw [atI_nat (by simpa using h)]
  simp
theorem dot_rng (f : Nat → Int) (n : Nat) : (List.range n).map f = (List.range n).map f := rfl
/-- the sum of the products, place by place -/
def prodL (l m : List Int) : List Int := List.zipWith (· * ·) l m
def dot (l m : List Int) : Int := (prodL l m).sum
theorem zip_fm : ∀ (l m : List Int), (zipL (l.map D.int) (m.map D.int)) = (l.zip m).map fun q => D.tup [.int q.1, .int q.2]
  | [], _ => by simp [zipL]
  | _ :: _, [] => by simp [zipL]
  | a :: l, b :: m => by
    have := zip_fm l m
    unfold zipL at this ⊢
    simp [this]
end
end DL
set_option Elab.async false
set_option linter.all false
set_option maxRecDepth 100000
/-! DV1: data and lists of names' own side by side; *e in a display; range with a step; xs[::-1] -/
namespace DL
open PySem PySem.Spec PyProof.Rows L2 StX

/-- tm: the lists just made, tm0: those ahead -/
inductive RepM (G : Gd) (φ : List Addr) (U : Addr → Prop) (H : Hp) (tm : List (Addr × List D)) : List (Addr × List D) → List V → List Slot → Prop where
  | nil : RepM G φ U H tm tm [] []
  | val {tm0 v d vs ss} : Rep G φ U H v d → RepM G φ U H tm tm0 vs ss → RepM G φ U H tm tm0 (v :: vs) (.val d :: ss)
  | own {tm0 a ds vs ss} : RepM G φ U H tm ((a, ds) :: tm0) vs ss → RepM G φ U H tm tm0 (.ref a :: vs) (.own ds :: ss)
def PostM (G : Gd) (F : Fr) (W : WX) (φ : List Addr) (ow : Ow) (env : En) (σ : L2.St) (H : Hp) : Res (List Slot) → (List V → Hp → Prop) → Prop
  | .ok ss S', Q => ∀ φ' tm H' vs, Rel G F φ' ⟨ow.sl, tm⟩ S' env σ H' → Stp (mutA F φ ow) H (mutA F φ' ⟨ow.sl, tm⟩) H' → φ <+: φ' → RepM G φ' (mutA F φ' ⟨ow.sl, tm⟩) H' tm ow.tm vs ss → Q vs H'
  | .exn c p S', _ => ∀ φ' H' cls dd, Rel G F φ' ow S' env σ H' → Stp (mutA F φ ow) H (mutA F φ' ow) H' → φ <+: φ' → XRep G φ' (mutA F φ' ow) H' c p cls dd → W cls dd σ H'
  | .stuck, _ => False
def LiftM (G : Gd) (F : Fr) (W : WX) (m : M (List Slot)) : TA := fun σ H Q => ∃ φ ow S env, Rel G F φ ow S env σ H ∧ PostM G F W φ ow env σ H (m env S) Q
def SM (X : Cx) (T : List (Addr × Str)) (F : Fr) (W : WX) (m : M (List Slot)) (es : List Expr) : Prop := PA X es (LiftM (gX X T) F W m)
def mMNil : M (List Slot) := fun _ S => .ok [] S
def mMVal (ma : M D) (mr : M (List Slot)) : M (List Slot) := fun env S => (ma env S).bnd fun a S1 => (mr env S1).bnd fun r S2 => .ok (.val a :: r) S2
def mMOwn (ma : M (List D)) (mr : M (List Slot)) : M (List Slot) := fun env S => (ma env S).bnd fun a S1 => (mr env S1).bnd fun r S2 => .ok (.own a :: r) S2
section
variable {X : Cx} {T : List (Addr × Str)} {F : Fr} {W : WX} {e a b : Expr} {es : List Expr} {pos : Pos} {ma mb : M D} {ml : M (List D)} {mm : M (List Slot)} {G : Gd} {φ φ1 : List Addr} {ow : Ow} {S : Sto} {env : En} {σ : L2.St} {H H1 : Hp}
theorem RepM.st {φ' : List Addr} {U U' : Addr → Prop} {H H' : Hp} {tm tm0 : List (Addr × List D)} {vs : List V} {ss : List Slot} (h : RepM G φ U H tm tm0 vs ss) (s : Stp U H U' H') (p : φ <+: φ') : RepM G φ' U' H' tm tm0 vs ss := by
  induction h with
  | nil => exact .nil
  | val r _ ih => exact .val (r.st s p) ih
  | own _ ih => exact .own ih
theorem PostM.go {r : Res (List Slot)} {Q : List V → Hp → Prop} (h : PostM G F W φ ow env σ H r Q) (s : Stp (mutA F φ ow) H (mutA F φ1 ow) H1) (p : φ <+: φ1) : PostM G F W φ1 ow env σ H1 r Q := by
  cases r with
  | ok a S' => exact fun φ' tm H' v R' s' p' => h φ' tm H' v R' (s.trans s') (p.trans p')
  | exn c q S' => exact fun φ' H' cls dd R' s' p' x => h φ' H' cls dd R' (s.trans s') (p.trans p') x
  | stuck => exact h
theorem sm_nil : SM X T F W mMNil [] := PA.imp pa_nil fun σ H Q ⟨φ, ow, S, env, R, q⟩ => q φ ow.tm H [] R Stp.refl (List.prefix_refl _) .nil
theorem sm_val (ha : SE X T F W ma a) (hr : SM X T F W mm es) (hs : starEach (a :: es) X.env = (false, eval a X.env) :: starEach es X.env := by rfl) : SM X T F W (mMVal ma mm) (a :: es) :=
  PA.imp (pa_cons ha hr hs) fun σ H Q ⟨φ, ow, S, env, R, q⟩ => ⟨φ, ow, S, env, R, by
    unfold mMVal at q
    cases e1 : ma env S with
    | ok d S1 =>
      rw [e1] at q
      intro φ1 H1 v R1 s1 p1 r1
      refine ⟨φ1, ow, S1, env, R1, ?_⟩
      have q' : PostM (gX X T) F W φ ow env σ H ((mm env S1).bnd fun r S2 => .ok (.val d :: r) S2) Q := q
      cases e2 : mm env S1 with
      | ok r S2 =>
        rw [e2] at q'
        intro φ2 tm H2 vs R2 s2 p2 r2
        exact q' φ2 tm H2 (v :: vs) R2 (s1.trans s2) (p1.trans p2) (.val (r1.st s2 p2) r2)
      | exn c p S2 =>
        rw [e2] at q'
        exact fun φ2 H2 cls dd R2 s2 p2 x => q' φ2 H2 cls dd R2 (s1.trans s2) (p1.trans p2) x
      | stuck => rw [e2] at q'; exact q'
    | exn c p S1 => rw [e1] at q; exact q
    | stuck => rw [e1] at q; exact q⟩
theorem sm_own (ha : SN X T F W ml a) (hr : SM X T F W mm es) (hs : starEach (a :: es) X.env = (false, eval a X.env) :: starEach es X.env := by rfl) : SM X T F W (mMOwn ml mm) (a :: es) :=
  PA.imp (pa_cons ha hr hs) fun σ H Q ⟨φ, ow, S, env, R, q⟩ => ⟨φ, ow, S, env, R, by
    unfold mMOwn at q
    cases e1 : ml env S with
    | ok ds S1 =>
      rw [e1] at q
      intro φ1 H1 p R1 s1 p1
      refine ⟨φ1, ow.push p ds, S1, env, R1, ?_⟩
      have q' : PostM (gX X T) F W φ ow env σ H ((mm env S1).bnd fun r S2 => .ok (.own ds :: r) S2) Q := q
      cases e2 : mm env S1 with
      | ok r S2 =>
        rw [e2] at q'
        intro φ2 tm H2 vs R2 s2 p2 r2
        exact q' φ2 tm H2 (.ref p :: vs) R2 (s1.trans s2) (p1.trans p2) (.own r2)
      | exn c q0 S2 =>
        rw [e2] at q'
        intro φ2 H2 cls dd R2 s2 p2 x
        obtain ⟨R3, s3, r3⟩ := R2.tmpVal
        refine q' φ2 H2 cls dd R3 ((s1.trans s2).trans s3) (p1.trans p2) ?_
        refine ⟨x.1, ?_⟩
        have x2 := x.2
        cases q0 with
        | none => exact x2
        | some fd =>
          obtain ⟨f, d⟩ := fd
          obtain ⟨y, v, h1, h2, h3, h4⟩ := x2
          obtain ⟨h5, h6⟩ := s3 _ _ (fun _ z => by cases z) h2 h3
          exact ⟨y, v, h1, h5, h6, h4.st s3 (List.prefix_refl _)⟩
      | stuck => rw [e2] at q'; exact q'
    | exn c p S1 => rw [e1] at q; exact q
    | stuck => rw [e1] at q; exact q⟩
/-- names are bound, the last one first -/
theorem bind1 {tm tm0 : List (Addr × List D)} {v : V} {s : Slot} {i : Nat} {sl : List (Option Addr)} (R : Rel G F φ ⟨sl, tm⟩ S env σ H) (r : RepM G φ (mutA F φ ⟨sl, tm⟩) H tm tm0 [v] [s]) (hi : i < env.length) :
    ∃ sl', Rel G F φ ⟨sl', tm0⟩ S (env.set i s) (σ.set i (some v)) H ∧ Stp (mutA F φ ⟨sl, tm⟩) H (mutA F φ ⟨sl', tm0⟩) H := by
  cases r with
  | val r1 r2 =>
    cases r2
    exact ⟨_, R.setVal (r1.st off_stp (List.prefix_refl _)), off_stp⟩
  | own r2 =>
    cases r2
    obtain ⟨R1, s1⟩ := Rel.pop (ow := ⟨sl, tm0⟩) R hi
    exact ⟨_, R1, s1⟩
theorem RepM.split1 {tm tm0 : List (Addr × List D)} {U : Addr → Prop} : ∀ {vs : List V} {ss : List Slot} {v : V} {s : Slot}, RepM G φ U H tm tm0 (vs ++ [v]) (ss ++ [s]) → ∃ tm1, RepM G φ U H tm1 tm0 vs ss ∧ RepM G φ U H tm tm1 [v] [s]
  | [], [], v, s, h => ⟨tm0, .nil, h⟩
  | [], s1 :: ss, v, s, h => by
    exfalso
    cases ss with
    | nil => cases h <;> rename_i h <;> cases h
    | cons s2 ss => cases h <;> rename_i h <;> cases h
  | v1 :: vs, [], v, s, h => by
    exfalso
    cases vs with
    | nil => cases h <;> rename_i h <;> cases h
    | cons s2 ss => cases h <;> rename_i h <;> cases h
  | v1 :: vs, s1 :: ss, v, s, h => by
    cases h with
    | val r1 r2 =>
      obtain ⟨tm1, h1, h2⟩ := RepM.split1 r2
      exact ⟨tm1, .val r1 h1, h2⟩
    | own r2 =>
      obtain ⟨tm1, h1, h2⟩ := RepM.split1 r2
      exact ⟨tm1, .own h1, h2⟩
theorem lift_bSM {mm : M (List Slot)} {k : List Slot → Sto → RS} {D : Ends} {Q1 : List V → Hp → Prop} (R : Rel G F φ ow S env σ H) (h : PostS G F W φ ow H ((mm env S).bndS env k) D)
    (hk : ∀ ss S1 φ1 tm H1 vs, Rel G F φ1 ⟨ow.sl, tm⟩ S1 env σ H1 → Stp (mutA F φ ow) H (mutA F φ1 ⟨ow.sl, tm⟩) H1 → φ <+: φ1 → RepM G φ1 (mutA F φ1 ⟨ow.sl, tm⟩) H1 tm ow.tm vs ss → PostS G F W φ1 ⟨ow.sl, tm⟩ H1 (k ss S1) D → Q1 vs H1) : LiftM G F W mm σ H Q1 := by
  refine ⟨φ, ow, S, env, R, ?_⟩
  cases e : mm env S with
  | ok a S1 =>
    rw [e] at h
    have h' : PostS G F W φ ow H (k a S1) D := h
    exact fun φ1 tm H1 vs R1 s1 p1 r1 => hk a S1 φ1 tm H1 vs R1 s1 p1 r1 (h'.go s1 p1)
  | exn c q S1 =>
    rw [e] at h
    have h' : PostS G F W φ ow H (.exn c q env S1) D := h
    exact fun φ' H' cls dd R' s' p' x => h' φ' ow σ H' cls dd R' s' p' x
  | stuck =>
    rw [e] at h
    exact h
def mParM (i j : Nat) (ml : M (List Slot)) : MS := fun e S => (ml e S).bndS e fun ds S1 => match ds with
  | [a, b] => if i < e.length ∧ j < e.length then .nx ((e.set i a).set j b) S1 else .stuck
  | _ => .stuck
theorem ss_parM (i j : Nat) {x y : Str} {px py pt : Pos} {kt k2 pt2} (hc : X.calm = true) (hN : X.N.Nodup) (hi : X.N[i]? = some x) (hj : X.N[j]? = some y) (hij : i ≠ j)
    (hx : X.env.scope.names.lookup x = some .local) (hy : X.env.scope.names.lookup y = some .local) (ha : SM X T F W mm [a, b])
    (hw : swappedStores [.Tuple [.Name x px, .Name y py] kt pt] (.Tuple [a, b] k2 pt2) X.env = pure (some [x, y]) := by rfl)
    (hs : swapsWithSole [.Tuple [.Name x px, .Name y py] kt pt] (.Tuple [a, b] k2 pt2) pos.line X.env = pure false := by rfl) :
    SS X T F W (mParM i j mm) (.Assign [.Tuple [.Name x px, .Name y py] kt pt] (.Tuple [a, b] k2 pt2) pos) :=
  PS.imp (ps_par hc hN hi hj hij hx hy ha hw hs) fun D σ H ⟨φ, ow, S, env, R, q⟩ => lift_bSM R q fun ss S1 φ1 tm H1 vs R1 s1 p1 r1 q1 => by
    split at q1
    · rename_i sa sb
      split at q1
      · rename_i hl
        match vs, r1 with
        | [va, vb], r1 =>
          obtain ⟨tm1, r2, r3⟩ := RepM.split1 (vs := [va]) (ss := [sa]) (v := vb) (s := sb) r1
          obtain ⟨sl2, R2, s2⟩ := bind1 (i := j) R1 r3 hl.2
          obtain ⟨sl3, R3, s3⟩ := bind1 (i := i) R2 (r2.st s2 (List.prefix_refl _)) (by rw [List.length_set]; exact hl.1)
          rw [List.set_comm _ _ (Ne.symm hij), List.set_comm _ _ (Ne.symm hij)] at R3
          exact ⟨_, _, rfl, q1 φ1 _ _ H1 R3 (s2.trans s3) (List.prefix_refl _)⟩
        | [], r1 => cases r1
        | [va], r1 => cases r1 <;> rename_i r1 <;> cases r1
        | va :: vb :: vc :: vs, r1 => cases r1 <;> rename_i r1 <;> cases r1 <;> rename_i r1 <;> cases r1
      · exact q1.elim
    · exact q1.elim
def mParM3 (i j l : Nat) (ml : M (List Slot)) : MS := fun e S => (ml e S).bndS e fun ds S1 => match ds with
  | [a, b, c] => if i < e.length ∧ j < e.length ∧ l < e.length then .nx (((e.set i a).set j b).set l c) S1 else .stuck
  | _ => .stuck
theorem ss_parM3 (i j l : Nat) {c : Expr} {x y z : Str} {px py pz pt : Pos} {kt k2 pt2} (hc : X.calm = true) (hN : X.N.Nodup) (hi : X.N[i]? = some x) (hj : X.N[j]? = some y) (hl : X.N[l]? = some z) (hij : i ≠ j) (hil : i ≠ l) (hjl : j ≠ l)
    (hx : X.env.scope.names.lookup x = some .local) (hy : X.env.scope.names.lookup y = some .local) (hz : X.env.scope.names.lookup z = some .local) (ha : SM X T F W mm [a, b, c])
    (hw : swappedStores [.Tuple [.Name x px, .Name y py, .Name z pz] kt pt] (.Tuple [a, b, c] k2 pt2) X.env = pure (some [x, y, z]) := by rfl)
    (hs : swapsWithSole [.Tuple [.Name x px, .Name y py, .Name z pz] kt pt] (.Tuple [a, b, c] k2 pt2) pos.line X.env = pure false := by rfl) :
    SS X T F W (mParM3 i j l mm) (.Assign [.Tuple [.Name x px, .Name y py, .Name z pz] kt pt] (.Tuple [a, b, c] k2 pt2) pos) :=
  PS.imp (ps_par3 hc hN hi hj hl hij hil hjl hx hy hz ha hw hs) fun D σ H ⟨φ, ow, S, env, R, q⟩ => lift_bSM R q fun ss S1 φ1 tm H1 vs R1 s1 p1 r1 q1 => by
    split at q1
    · rename_i sa sb sc
      split at q1
      · rename_i hh
        match vs, r1 with
        | [va, vb, vc], r1 =>
          obtain ⟨tm1, r2, r3⟩ := RepM.split1 (vs := [va, vb]) (ss := [sa, sb]) (v := vc) (s := sc) r1
          obtain ⟨tm2, r4, r5⟩ := RepM.split1 (vs := [va]) (ss := [sa]) (v := vb) (s := sb) r2
          obtain ⟨sl2, R2, s2⟩ := bind1 (i := l) R1 r3 hh.2.2
          obtain ⟨sl3, R3, s3⟩ := bind1 (i := j) R2 (r5.st s2 (List.prefix_refl _)) (by rw [List.length_set]; exact hh.2.1)
          obtain ⟨sl4, R4, s4⟩ := bind1 (i := i) R3 (r4.st (s2.trans s3) (List.prefix_refl _)) (by rw [List.length_set, List.length_set]; exact hh.1)
          have c1 : ∀ {α : Type} (t : List α) (u v w : α), ((t.set l w).set j v).set i u = ((t.set i u).set j v).set l w := fun t u v w => by
            rw [List.set_comm _ _ (Ne.symm hij), List.set_comm _ _ (Ne.symm hil), List.set_comm _ _ (Ne.symm hjl)]
          rw [c1, c1] at R4
          exact ⟨_, _, _, rfl, q1 φ1 _ _ H1 R4 ((s2.trans s3).trans s4) (List.prefix_refl _)⟩
        | [], r1 => cases r1
        | [va], r1 => cases r1 <;> rename_i r1 <;> cases r1
        | [va, vb], r1 => cases r1 <;> rename_i r1 <;> cases r1 <;> rename_i r1 <;> cases r1
        | va :: vb :: vc :: vd :: vs, r1 => cases r1 <;> rename_i r1 <;> cases r1 <;> rename_i r1 <;> cases r1 <;> rename_i r1 <;> cases r1
      · exact q1.elim
    · exact q1.elim

/-! ### *e -/
def mStar (ma : M D) (mr : M (List D)) : M (List D) := fun env S => (ma env S).bnd fun a S1 => (oR (itemsL a) S1).bnd fun xs S2 => (mr env S2).bnd fun r S3 => .ok (xs ++ r) S3
theorem sa_star {p : Pos} (ha : SE X T F W ma e) (hr : SA X T F W ml es) (hs : starEach (.Starred e p :: es) X.env = (true, eval e X.env) :: starEach es X.env := by rfl) : SA X T F W (mStar ma ml) (.Starred e p :: es) :=
  PA.imp (pa_star ha hr hs) fun σ H Q ⟨φ, ow, S, env, R, q⟩ => lift_bnd R q fun d S1 φ1 H1 v R1 s1 p1 r1 q1 => by
    cases hd : itemsL d with
    | none => rw [hd] at q1; exact q1.elim
    | some xs =>
      rw [hd] at q1
      have q2 : PostR (gX X T) F W (rpL (gX X T)) φ1 ow env σ H1 ((ml env S1).bnd fun r S3 => .ok (xs ++ r) S3) Q := q1
      obtain ⟨y, vs, rfl, h1, h2⟩ := sq_of r1 hd
      refine ⟨y, vs, rfl, ?_, ?_⟩
      · cases ht : isTup d with
        | true => rw [ht] at h1; exact .inl h1
        | false => rw [ht] at h1; exact .inr h1
      · exact lift_bnd R1 q2 fun ds S2 φ2 H2 ws R2 s2 p2 r2 q3 => PostR.here q3 R2 ((h2.st s2 p2).app r2)

/-! ### range(a, b, c) -/
def rng3 (S : Sto) : List D → Option (List D)
  | [.int i, .int j, .int c] => if c = -1 then (if -1000000 ≤ i ∧ i ≤ 1000000 ∧ -1000000 ≤ j ∧ j ≤ 1000000 then some ((List.range (i - j).toNat).map fun k => D.int (i - (k : Nat))) else none)
    else if c ≠ 0 ∧ c.natAbs < 1073741824 ∧ Builtin.Range.small i j c = true then some ((List.range (Builtin.Range.rangeSize i j c).toNat).map fun k => D.int (i + (k : Nat) * c)) else none
  | _ => none
theorem it_rangeC {lo c : Int} {n : Nat} {U : Addr → Prop} : ItOk G φ U H (Itc lo c n) ((List.range n).map fun k => D.int (lo + (k : Nat) * c)) := fun φ1 U1 H1 st pf hU i => by
  simp only [List.length_map, List.length_range]
  refine ⟨fun hi => hi, fun hi => Nat.le_of_eq hi.symm, fun y H2 hi ⟨e, q⟩ => ?_⟩
  subst e q
  exact ⟨Same.refl _, .int (lo + (i : Nat) * c), by simp [hi], .int _⟩
theorem paired3 {R : V → D → Prop} {vs : List V} {d e f : D} (h : Paired R vs [d, e, f]) : ∃ v w x, vs = [v, w, x] ∧ R v d ∧ R w e ∧ R x f := by
  cases h with
  | cons a h =>
    cases h with
    | cons b h =>
      cases h with
      | cons c h =>
        cases h
        exact ⟨_, _, _, rfl, a, b, c⟩
def mRng3 (ml : M (List D)) : M (List D) := fun e S => (ml e S).bnd fun ds S1 => oR (rng3 S1 ds) S1
variable {tg c : Expr}
theorem si_range3 {p : Pos} (hg : Gl X "range") (hm : X.mg "range" = none) (ha : SAB X T F W ml [a, b, c]) (hs : starEach [a, b, c] X.env = (false, eval a X.env) :: starEach [b, c] X.env := by rfl) (hpl : (backTo pos (starEach [b, c] X.env)).any (·.1) = false := by rfl) :
    SI X T F W (mRng3 ml) tg (.Call (.Name "range" p) [a, b, c] [] pos) :=
  PI.imp (pi_range3 hg hm ha hs hpl) fun σ H R ⟨φ, ow, S, env, Rl, q⟩ => lift_bI Rl q fun ds S1 φ1 H1 vs R1 s1 p1 r1 q1 => by
    unfold rng3 at q1
    split at q1
    · rename_i i j c
      split at q1
      · rename_i hc
        split at q1
        · obtain ⟨v, w, x, rfl, r, r', r''⟩ := paired3 (rpBL.h R1 r1)
          have e : ((List.range (i - j).toNat).map fun k : Nat => D.int (i - (k : Int))) = (List.range (i - j).toNat).map fun k : Nat => D.int (i + (k : Int) * c) := by
            rw [hc]
            refine List.map_congr_left fun k _ => ?_
            rw [show i + (k : Int) * -1 = i - (k : Int) by omega]
          rw [e] at q1
          refine ⟨i, j, c, _, by rw [r.int, r'.int, r''.int], ?_, PostI.here q1 R1 it_rangeC⟩
          rw [hc]
          exact RgC.neg (by omega) (by omega) (by omega) (by omega)
        · exact q1.elim
      · split at q1
        · rename_i hh
          obtain ⟨v, w, x, rfl, r, r', r''⟩ := paired3 (rpBL.h R1 r1)
          exact ⟨i, j, c, _, by rw [r.int, r'.int, r''.int], ⟨hh.1, hh.2.1, hh.2.2, PyProof.Rows.rangeSize_toNat i j c⟩, PostI.here q1 R1 it_rangeC⟩
        · exact q1.elim
    · exact q1.elim

/-! ### xs[::-1], range as a list -/
theorem RepL.rev {U : Addr → Prop} {vs : List V} {ds : List D} (h : RepL G φ U H vs ds) : RepL G φ U H vs.reverse ds.reverse := by
  induction vs generalizing ds with
  | nil => cases h; exact .nil
  | cons v vs ih =>
    cases h with
    | cons r1 r2 =>
      rw [List.reverse_cons, List.reverse_cons]
      exact (ih r2).app (.cons r1 .nil)
/-- of a list: a new one -/
def mNewRev (ma : M D) : M (List D) := fun e S => (ma e S).bnd fun d S1 => oR ((lsOf S1 d).map List.reverse) S1
theorem sn_rev {k : Nat} {p1 p2 p3 : Pos} (ha : SB X T F W ma a) : SN X T F W (mNewRev ma) (.Subscript a (.Slice none none (some (.UnaryOp .USub (.Constant (.int 1) k p1) p2)) p3) pos) :=
  PE.imp (pe_revL ha) fun σ H Q ⟨φ, ow, S, env, R, q⟩ => lift_bN R q fun d S1 φ1 H1 v R1 s1 p1 r1 q1 => by
    cases hd : lsOf S1 d with
    | none => rw [hd] at q1; exact q1.elim
    | some ds =>
      rw [hd] at q1
      obtain ⟨x, vs, rfl, h1, h2⟩ := (rpB.h R1 r1).ls R1.cells hd
      exact ⟨x, vs, rfl, .inl (.inl h1), fun p hp => PostN.laid q1 R1 h2.rev hp⟩
/-- list(range(n)), list(range(a, b)) -/
theorem repL_rg {U : Addr → Prop} (i : Int) (n : Nat) : RepL G φ U H ((List.range n).map fun k => V.int (i + (k : Nat))) ((List.range n).map fun k => D.int (i + (k : Nat))) := by
  generalize List.range n = ks
  induction ks with
  | nil => exact .nil
  | cons k ks ih => exact .cons (.int _) ih
def mNewRg1 (ma : M D) : M (List D) := fun e S => (ma e S).bnd fun d S1 => oR (rng2 S1 [.int 0, d]) S1
def mNewRg2 (ma mb : M D) : M (List D) := fun e S => (ma e S).bnd fun d S1 => (mb e S1).bnd fun d2 S2 => oR (rng2 S2 [d, d2]) S2
theorem sn_rg1 {p p2 pos2 : Pos} (hc : X.calm = true) (hgl : Gl X "list") (hml : X.mg "list" = none) (hg : Gl X "range") (hm : X.mg "range" = none) (ha : SB X T F W ma a)
    (na : starEach [a] X.env = (false, eval a X.env) :: starEach [] X.env := by rfl) (na2 : starEach [.Call (.Name "range" p) [a] [] pos] X.env = (false, eval (.Call (.Name "range" p) [a] [] pos) X.env) :: starEach [] X.env := by rfl) :
    SN X T F W (mNewRg1 ma) (.Call (.Name "list" p2) [.Call (.Name "range" p) [a] [] pos] [] pos2) :=
  PE.imp (pe_listRg hc hgl hml (prg_1 hg hm ha na) na2) fun σ H Q ⟨φ, ow, S, env, R, q⟩ => by
    refine lift_bN R q fun d S1 φ1 H1 v R1 s1 p1 r1 q1 => ?_
    cases d with
    | int j =>
      unfold rng2 at q1
      dsimp only at q1
      split at q1
      · rw [((rpB.h R1 r1)).int]
        exact ⟨j, rfl, ⟨by omega, by omega, by omega, by omega, by omega⟩, fun p hp => PostN.laid q1 R1 (repL_rg 0 _) hp⟩
      · exact q1.elim
    | _ => exact q1.elim
theorem sn_rg2 {p p2 pos2 : Pos} (hc : X.calm = true) (hgl : Gl X "list") (hml : X.mg "list" = none) (hg : Gl X "range") (hm : X.mg "range" = none) (ha : SB X T F W ma a) (hb : SB X T F W mb b)
    (na : starEach [a, b] X.env = (false, eval a X.env) :: starEach [b] X.env := by rfl) (nb : starEach [b] X.env = (false, eval b X.env) :: starEach [] X.env := by rfl) (hp : (backTo pos (starEach [b] X.env)).any (·.1) = false := by rfl)
    (na2 : starEach [.Call (.Name "range" p) [a, b] [] pos] X.env = (false, eval (.Call (.Name "range" p) [a, b] [] pos) X.env) :: starEach [] X.env := by rfl) :
    SN X T F W (mNewRg2 ma mb) (.Call (.Name "list" p2) [.Call (.Name "range" p) [a, b] [] pos] [] pos2) :=
  PE.imp (pe_listRg hc hgl hml (prg_2 hg hm ha hb na nb hp) na2) fun σ H Q ⟨φ, ow, S, env, R, q⟩ => by
    refine lift_bN R q fun d S1 φ1 H1 v R1 s1 p1 r1 q1 => lift_bN R1 q1 fun d2 S2 φ2 H2 v2 R2 s2 p2 r2 q2 => ?_
    unfold rng2 at q2
    split at q2
    · rename_i i j heq
      cases heq
      split at q2
      · rw [(rpB.h R2 (r1.st s2 p2)).int, (rpB.h R2 r2).int]
        exact ⟨i, j, rfl, rfl, ⟨by omega, by omega, by omega, by omega, by omega⟩, fun p hp => PostN.laid q2 R2 (repL_rg i _) hp⟩
      · exact q2.elim
    · exact q2.elim
end
end DL
set_option Elab.async false
set_option linter.all false
set_option maxRecDepth 100000
/-! DO1: own classes: instances as cells while they are made, as data from then on -/
namespace DL
open PySem PySem.Spec PyProof.Rows L2

section
variable {G : Gd} {φ φ' : List Addr} {U U' U2 : Addr → Prop} {H H' H2 : Hp}
mutual
/-- a datum that already was one ahead of the last cells -/
theorem Rep.shrink (hφ : φ <+: φ') (hU : ∀ a, U2 a → U' a) : ∀ (d : D) (v w : V), Rep G φ' U' H' v d → Rep G φ U H w d → Rep G φ U2 H' v d
  | .non, _, _, h, _ => by cases h; exact .non
  | .bl _, _, _, h, _ => by cases h; exact .bl _
  | .int _, _, _, h, _ => by cases h; exact .int _
  | .str _, _, _, h, _ => by cases h; exact .str _
  | .adr _, _, _, h, _ => by cases h; exact .adr _
  | .xo1 a dd f d, _, _, h, k => by
    cases h with
    | xo1 h1 h2 h3 =>
      cases k with
      | xo1 k1 k2 k3 => exact .xo1 h1 (fun z => h2 (hU _ z)) (Rep.shrink hφ hU d _ _ h3 k3)
  | .tup ds, _, _, h, k => by
    have kk : ∃ ws, RepL G φ U H ws ds := by
      cases k with
      | tup _ _ k3 => exact ⟨_, k3⟩
      | tupK _ k3 => exact ⟨_, k3⟩
    obtain ⟨ws, k3⟩ := kk
    cases h with
    | tup h1 h2 h3 => exact .tup h1 (fun z => h2 (hU _ z)) (RepL.shrink hφ hU ds _ _ h3 k3)
    | tupK h1 h3 => exact .tupK h1 (RepL.shrink hφ hU ds _ _ h3 k3)
  | .lst ds, _, _, h, k => by
    cases h with
    | lst h1 h2 h3 =>
      cases k with
      | lst _ _ k3 => exact .lst h1 (fun z => h2 (hU _ z)) (RepL.shrink hφ hU ds _ _ h3 k3)
  | .ref n, _, _, h, k => by
    cases h with
    | ref h1 =>
      cases k with
      | ref k1 =>
        have := pre_at hφ k1
        rw [h1] at this
        cases this
        exact .ref k1
  | .glo _, _, _, h, _ => by
    cases h with
    | glo h1 h2 => exact .glo h1 h2
  | .scr ns, _, _, h, _ => by
    cases h with
    | scr h1 h2 h3 => exact .scr h1 h2 (fun z => h3 (hU _ z))
    | scrK h1 => exact .scrK h1
  | .emp, _, _, h, _ => by
    cases h with
    | emp h1 h2 => exact .emp h1 (fun z => h2 (hU _ z))
  | .obj C ks ds, _, _, h, k => by
    cases h with
    | obj h0 h1 h3 h5 h6 =>
      cases k with
      | obj _ _ _ _ k6 => exact .obj h0 h1 (fun z => h3 (hU _ z)) h5 (RepL.shrink hφ hU ds _ _ h6 k6)
theorem RepL.shrink (hφ : φ <+: φ') (hU : ∀ a, U2 a → U' a) : ∀ (ds : List D) (vs ws : List V), RepL G φ' U' H' vs ds → RepL G φ U H ws ds → RepL G φ U2 H' vs ds
  | [], _, _, h, _ => by cases h; exact .nil
  | d :: ds, _, _, h, k => by
    cases h with
    | cons h1 h2 =>
      cases k with
      | cons k1 k2 => exact .cons (Rep.shrink hφ hU d _ _ h1 k1) (RepL.shrink hφ hU ds _ _ h2 k2)
end
end
section
variable {G : Gd} {F : Fr} {φ φ1 : List Addr} {ow : Ow} {S S1 : Sto} {env : En} {σ : L2.St} {H H1 : Hp}
/-- a new instance is laid, a cell -/
theorem Rel.newIns {C : Str} {Ca x dx : Addr} (R : Rel G F φ ow S env σ H) (hC : G.mg C = some (.ref Ca)) (hx : H x = none) (hdx : H dx = none) (hne : dx ≠ x) :
    Rel G F (φ ++ [x]) ow (S ++ [.ins C []]) env σ (upd (upd H dx (.own x)) x (.ins Ca dx [])) ∧ Stp (mutA F φ ow) H (mutA F (φ ++ [x]) ow) (upd (upd H dx (.own x)) x (.ins Ca dx [])) := by
  have sm : Same H (upd (upd H dx (.own x)) x (.ins Ca dx [])) := fun b o e => by
    rw [upd_ne (ne_of_none e hx), upd_ne (ne_of_none e hdx)]
    exact e
  have R1 := R.same sm
  have hS := R.lenS
  have pf : φ <+: φ ++ [x] := List.prefix_append _ _
  have n1 : x ∉ φ := fun z => (R.there x z).ne hx
  have n2 : ¬ F.U0 x := fun z => (R.u0 x z).2.ne hx
  have n3 : ¬ ow.has x := fun z => (R.owN x z).2.2.2.ne hx
  have st : Stp (mutA F φ ow) (upd (upd H dx (.own x)) x (.ins Ca dx [])) (mutA F (φ ++ [x]) ow) (upd (upd H dx (.own x)) x (.ins Ca dx [])) → True := fun _ => trivial
  have stp : Stp (mutA F φ ow) H (mutA F (φ ++ [x]) ow) (upd (upd H dx (.own x)) x (.ins Ca dx [])) := fun b o nt e n => ⟨sm b o e, fun z => by
    rcases z with z | z | z
    · exact n (.inl z)
    · rcases List.mem_append.mp z with z | z
      · exact n (.inr (.inl z))
      · have z : b = x := by simpa using z
        rw [z, hx] at e
        cases e
    · exact n (.inr (.inr z))⟩
  have stC : ∀ (b : Addr) (c : Cell), RepC G φ (mutA F φ ow) H b c → RepC G (φ ++ [x]) (mutA F (φ ++ [x]) ow) (upd (upd H dx (.own x)) x (.ins Ca dx [])) b c := fun b c h => h.st stp pf (fun o h => sm _ _ h) (fun dx h => sm _ _ h)
  refine ⟨⟨R.lenE, R.lenO, fun j e hj => ?_, fun j es hj => ?_, fun a es h => ?_, R.owI, R.tmI, R.owT, fun a h => ?_, fun n c h => ?_, ?_, R.pre.trans pf, fun a h => ?_, fun a h => ?_, fun a h => ?_, R1.keep, R1.tabs, by simp [hS], R.owE⟩, stp⟩
  · obtain ⟨w, h1, h2⟩ := R.slot j e hj
    exact ⟨w, h1, h2.st stp pf⟩
  · obtain ⟨a, ws, h1, h2, h3, h4⟩ := R.own j es hj
    exact ⟨a, ws, h1, h2, sm _ _ h3, h4.st stp pf⟩
  · obtain ⟨ws, h1, h2⟩ := R.tmp a es h
    exact ⟨ws, sm _ _ h1, h2.st stp pf⟩
  · obtain ⟨m1, m2, m3, m4⟩ := R.owN a h
    refine ⟨fun z => ?_, m2, m3, same_ne sm m4⟩
    rcases List.mem_append.mp z with z | z
    · exact m1 z
    · have z : a = x := by simpa using z
      subst z
      exact n3 h
  · rw [List.getElem?_append] at h
    split at h
    · obtain ⟨a, k1, k2⟩ := R.cells n c h
      exact ⟨a, pre_at pf k1, stC a c k2⟩
    · rename_i hn
      have e0 : n - S.length = 0 := by
        cases q : n - S.length with
        | zero => rfl
        | succ m => rw [q] at h; simp at h
      have en : n = φ.length := by omega
      rw [e0] at h
      cases h
      refine ⟨x, by rw [en]; simp, .ins (vs := []) hC (by rw [upd_same]; rfl) ?_ .nil⟩
      rw [upd_ne hne, upd_same]
  · rw [List.nodup_append]
    refine ⟨R.nd, by simp, fun a ha b hb => ?_⟩
    have hb : b = x := by simpa using hb
    subst hb
    rintro rfl
    exact n1 ha
  · rcases List.mem_append.mp h with h | h
    · exact R.new a h
    · have h : a = x := by simpa using h
      subst h
      exact .inr (R.nil hx)
  · rcases List.mem_append.mp h with h | h
    · exact same_ne sm (R.there a h)
    · have h : a = x := by simpa using h
      subst h
      exact ⟨_, nt_ins, upd_same⟩
  · obtain ⟨k1, k2⟩ := R.u0 a h
    refine ⟨fun z => ?_, same_ne sm k2⟩
    rcases List.mem_append.mp z with z | z
    · exact k1 z
    · have z : a = x := by simpa using z
      subst z
      exact n2 h
/-- the last cell is one no longer; the others are as they were ahead of it -/
theorem Rel.retire {x : Addr} {c : Cell} (R2 : Rel G F φ ow S env σ H) (R3 : Rel G F (φ ++ [x]) ow (S ++ [c]) env σ H1) : Rel G F φ ow S env σ H1 ∧ Stp (mutA F (φ ++ [x]) ow) H1 (mutA F φ ow) H1 := by
  have pf : φ <+: φ ++ [x] := List.prefix_append _ _
  have hU : ∀ a, mutA F φ ow a → mutA F (φ ++ [x]) ow a := fun a h => by
    rcases h with h | h | h
    · exact .inl h
    · exact .inr (.inl (List.mem_append_left _ h))
    · exact .inr (.inr h)
  have hS := R2.lenS
  refine ⟨⟨R2.lenE, R2.lenO, fun j d hj => ?_, fun j es hj => ?_, fun a es h => ?_, R2.owI, R2.tmI, R2.owT, fun a h => ?_, fun n c' h => ?_, R2.nd, R2.pre, R2.new, fun a h => R3.there a (List.mem_append_left _ h), fun a h => ?_, R3.keep, R3.tabs, R2.lenS, R2.owE⟩, stp_less hU⟩
  · obtain ⟨v, h1, h2⟩ := R3.slot j d hj
    obtain ⟨w, k1, k2⟩ := R2.slot j d hj
    exact ⟨v, h1, Rep.shrink pf hU d v w h2 k2⟩
  · obtain ⟨a, vs, h1, h2, h3, h4⟩ := R3.own j es hj
    obtain ⟨a', ws, k1, k2, k3, k4⟩ := R2.own j es hj
    exact ⟨a, vs, h1, h2, h3, RepL.shrink pf hU es vs ws h4 k4⟩
  · obtain ⟨vs, h1, h2⟩ := R3.tmp a es h
    obtain ⟨ws, k1, k2⟩ := R2.tmp a es h
    exact ⟨vs, h1, RepL.shrink pf hU es vs ws h2 k2⟩
  · obtain ⟨m1, m2, m3, m4⟩ := R3.owN a h
    exact ⟨fun z => m1 (List.mem_append_left _ z), m2, m3, m4⟩
  · have hn := (List.getElem?_eq_some_iff.mp h).1
    obtain ⟨a, h1, h2⟩ := R3.cells n c' (by rw [List.getElem?_append_left hn]; exact h)
    obtain ⟨a', k1, k2⟩ := R2.cells n c' h
    refine ⟨a, by rw [List.getElem?_append_left (by omega)] at h1; exact h1, ?_⟩
    cases h2 with
    | lst h2 h3 =>
      cases k2 with
      | lst _ k3 => exact .lst h2 (RepL.shrink pf hU _ _ _ h3 k3)
    | ins h2 h3 h4 h5 =>
      cases k2 with
      | ins _ _ _ k5 => exact .ins h2 h3 h4 (RepL.shrink pf hU _ _ _ h5 k5)
  · obtain ⟨k1, k2⟩ := R3.u0 a h
    exact ⟨fun z => k1 (List.mem_append_left _ z), k2⟩
end
end DL
set_option Elab.async false
set_option linter.all false
set_option maxRecDepth 100000
/-! DO2: fields read and stored, properties, instances made -/
namespace DL
open PySem PySem.Spec PyProof.Rows L2
theorem upd_lvN {H : Hp} {a b : Addr} {o : HO} (ho : NT o) (h : Lv H b) : Lv (upd H a o) b := by
  obtain ⟨u, n, e⟩ := h
  by_cases hb : b = a
  · subst hb; exact ⟨o, ho, upd_same⟩
  · exact ⟨u, n, by rw [upd_ne hb]; exact e⟩
theorem tabs_updI {T : List (Addr × Str)} {H : Hp} {a Ca dx : Addr} {o : HO} {fs : List (Str × V)} (t : LamX.Tabs T H) (h : H a = some (.ins Ca dx fs)) : LamX.Tabs T (upd H a o) := fun p hp => by
  obtain ⟨ps, h1, h2, h3⟩ := t p hp
  refine ⟨ps, by rw [upd_ne (ne_of h1 h (fun z => by cases z))]; exact h1, h2, fun pos cv hcv => ?_⟩
  obtain ⟨c, e1, e2⟩ := h3 pos cv hcv
  exact ⟨c, e1, by rw [upd_ne (ne_of e2 h (fun z => by unfold LamX.CodeO at z; cases z))]; exact e2⟩
/-- a field stored -/
def putFD (f : Str) (d : D) : List (Str × D) → List (Str × D)
  | [] => [(f, d)]
  | (g, x) :: r => if g = f then (g, d) :: r else (g, x) :: putFD f d r
section
variable {G : Gd} {F : Fr} {φ φ1 : List Addr} {ow : Ow} {S S1 : Sto} {env : En} {σ : L2.St} {H H1 : Hp} {U : Addr → Prop}
theorem putF_rel {f : Str} {d : D} {v : V} (r : Rep G φ U H v d) : ∀ (fs : List (Str × D)) (vs : List V), RepL G φ U H vs (fs.map (·.2)) → ∃ vs', putF f v ((fs.map (·.1)).zip vs) = ((putFD f d fs).map (·.1)).zip vs' ∧ RepL G φ U H vs' ((putFD f d fs).map (·.2))
  | [], vs, h => by
    cases h
    exact ⟨[v], rfl, .cons r .nil⟩
  | (g, x) :: fs, _, h => by
    cases h with
    | cons h1 h2 =>
      rename_i w ws
      unfold putFD
      by_cases hg : g = f
      · refine ⟨v :: ws, ?_, ?_⟩
        · simp [putF, hg]
        · rw [if_pos hg]; exact .cons r h2
      · obtain ⟨vs', e1, e2⟩ := putF_rel r fs ws h2
        refine ⟨w :: vs', ?_, ?_⟩
        · simp [putF, hg]; exact e1
        · rw [if_neg hg]; exact .cons h1 e2
theorem lookup_rel {f : Str} : ∀ {ks : List Str} {vs : List V} {ds : List D} {d : D}, RepL G φ U H vs ds → ks.length = ds.length → (ks.zip ds).lookup f = some d → ∃ v, (ks.zip vs).lookup f = some v ∧ Rep G φ U H v d
  | [], _, _, _, _, _, e => by simp at e
  | k :: ks, _, _, d, .nil, hl, _ => by simp at hl
  | k :: ks, _, _, d, .cons (v := v) (d := d0) h1 h2, hl, e => by
    simp only [List.zip_cons_cons, List.lookup_cons] at e ⊢
    cases hk : f == k with
    | true =>
      rw [hk] at e
      cases e
      exact ⟨v, rfl, h1⟩
    | false =>
      rw [hk] at e
      exact lookup_rel h2 (by simpa using hl) e
theorem zip_self {fs : List (Str × D)} : (fs.map (·.1)).zip (fs.map (·.2)) = fs := by
  induction fs with
  | nil => rfl
  | cons x fs ih => simp [ih]
/-- a field of a cell is stored -/
theorem Rel.setIns {n : Nat} {C f : Str} {fs : List (Str × D)} {d : D} {v : V} (R : Rel G F φ ow S env σ H) (hc : S[n]? = some (.ins C fs)) (r : Rep G φ (mutA F φ ow) H v d) : ∃ a Ca dx vs, φ[n]? = some a ∧ G.mg C = some (.ref Ca) ∧ H a = some (.ins Ca dx ((fs.map (·.1)).zip vs)) ∧
    ((fs.map (·.1)).zip vs).length ≤ fs.length ∧
    Rel G F φ ow (S.set n (.ins C (putFD f d fs))) env σ (upd H a (.ins Ca dx (putF f v ((fs.map (·.1)).zip vs)))) ∧ Stp (mutA F φ ow) H (mutA F φ ow) (upd H a (.ins Ca dx (putF f v ((fs.map (·.1)).zip vs)))) := by
  obtain ⟨a, k1, k2⟩ := R.cells n _ hc
  cases k2 with
  | ins h0 h3 h5 h4 =>
  rename_i Ca dx vs
  have hm : a ∈ φ := List.mem_iff_getElem?.mpr ⟨n, k1⟩
  have st : Stp (mutA F φ ow) H (mutA F φ ow) (upd H a (.ins Ca dx (putF f v ((fs.map (·.1)).zip vs)))) := stp_mut (.inr (.inl hm))
  obtain ⟨vs', e1, e2⟩ := putF_rel (f := f) r fs vs h4
  have ndx : dx ≠ a := fun z => by rw [z, h3] at h5; cases h5
  refine ⟨a, Ca, dx, vs, k1, h0, h3, by simp; omega, ⟨R.lenE, R.lenO, fun j e hj => ?_, fun j fs' hj => ?_, fun b fs' h => ?_, R.owI, R.tmI, R.owT, fun b h => ?_, fun m c h => ?_, R.nd, R.pre, R.new, fun b h => upd_lvN nt_ins (R.there b h), fun b h => ⟨(R.u0 b h).1, upd_lvN nt_ins (R.u0 b h).2⟩, fun b o nt h1 h2 => ?_, tabs_updI R.tabs h3, by simp [R.lenS], R.owE⟩, st⟩
  · obtain ⟨w, h1, h2⟩ := R.slot j e hj
    exact ⟨w, h1, h2.st st (List.prefix_refl _)⟩
  · obtain ⟨b, us, k1, k2, k3, k4⟩ := R.own j fs' hj
    exact ⟨b, us, k1, k2, by rw [upd_ne (fun z => (R.owN b (.inl (List.mem_iff_getElem?.mpr ⟨j, k1⟩))).1 (by rw [z]; exact hm))]; exact k3, k4.st st (List.prefix_refl _)⟩
  · obtain ⟨us, k1, k2⟩ := R.tmp b fs' h
    exact ⟨us, by rw [upd_ne (fun z => (R.owN b (.inr (List.mem_map.mpr ⟨_, h, rfl⟩))).1 (by rw [z]; exact hm))]; exact k1, k2.st st (List.prefix_refl _)⟩
  · obtain ⟨m1, m2, m3, m4⟩ := R.owN b h
    exact ⟨m1, m2, m3, upd_lvN nt_ins m4⟩
  · rw [List.getElem?_set] at h
    split at h
    · rename_i e0
      subst e0
      split at h
      · cases h
        exact ⟨a, k1, .ins (vs := vs') h0 (by rw [upd_same, e1]) (by rw [upd_ne ndx]; exact h5) (e2.st st (List.prefix_refl _))⟩
      · cases h
    · rename_i ne
      obtain ⟨b, q1, q2⟩ := R.cells m c h
      have nb : b ≠ a := fun z => by
        rw [z] at q1
        obtain ⟨i1, j1⟩ := List.getElem?_eq_some_iff.mp k1
        obtain ⟨i2, j2⟩ := List.getElem?_eq_some_iff.mp q1
        exact ne ((List.getElem_inj R.nd).mp (j1.trans j2.symm))
      exact ⟨b, q1, q2.st st (List.prefix_refl _) (fun o e => by rw [upd_ne nb]; exact e) (fun dx e => by rw [upd_ne (ne_of e h3 (fun z => by cases z))]; exact e)⟩
  · by_cases hb : b = a
    · subst hb
      rcases R.new b hm with z | z
      · exact absurd z h2
      · exact absurd h1 (z o nt)
    · rw [upd_ne hb]
      exact R.keep b o nt h1 h2
end

/-! ### e.f -/
def fldOf (S : Sto) (cs : List Str) (f : Str) : D → Option D
  | .obj C ks ds => if C ∈ cs ∧ ks.length = ds.length then (ks.zip ds).lookup f else none
  | .ref n => match S[n]? with
    | some (.ins C fs) => if C ∈ cs then fs.lookup f else none
    | _ => none
  | _ => none
def mFld (cs : List Str) (f : Str) (mo : M D) : M D := fun e S => (mo e S).bnd fun d S1 => oR (fldOf S1 cs f d) S1
/-- what the classes say of a field -/
def FldC (K : PySem.W.Frag) (mg : Str → Option Value) (cs : List Str) (f : Str) : Prop := ∀ C ∈ cs, ∃ Ca, mg C = some (.ref Ca) ∧ Cls K Ca ∧ NoAttr K Ca f
section
variable {X : Cx} {T : List (Addr × Str)} {F : Fr} {W : WX} {o e : Expr} {pos pos' : Pos} {mo mv : M D} {f : Str} {cs : List Str}
theorem se_fld (hc : FldC X.K X.mg cs f) (ho : SE X T F W mo o) (hb : attributeBase o f X.env (eval o X.env) = eval o X.env := by rfl) : SE X T F W (mFld cs f mo) (.Attribute o f pos) :=
  PE.imp (pe_fld ho hb) fun σ H Q ⟨φ, ow, S, env, R, q⟩ => lift_bnd R q fun d S1 φ1 H1 v R1 s1 p1 r1 q1 => by
    cases d with
    | obj C ks ds =>
      unfold fldOf at q1
      dsimp only at q1
      split at q1
      · rename_i hC
        cases hl : (ks.zip ds).lookup f with
        | none => rw [hl] at q1; exact q1.elim
        | some d =>
          rw [hl] at q1
          cases r1 with
          | obj h0 h1 h3 h5 h6 =>
            obtain ⟨Ca, g1, g2, g3⟩ := hc C hC.1
            have h0' : X.mg C = _ := h0
            rw [h0'] at g1
            cases g1
            obtain ⟨w, e1, e2⟩ := lookup_rel h6 h5 hl
            exact ⟨_, _, _, _, w, rfl, h1, g2, g3, e1, PostR.here q1 R1 e2⟩
      · exact q1.elim
    | ref n =>
      unfold fldOf at q1
      dsimp only at q1
      split at q1
      · rename_i C fs hS
        split at q1
        · rename_i hC
          cases hl : fs.lookup f with
          | none => rw [hl] at q1; exact q1.elim
          | some d =>
            rw [hl] at q1
            cases r1 with
            | ref hr =>
              obtain ⟨a, k1, k2⟩ := R1.cells n _ hS
              rw [hr] at k1
              cases k1
              cases k2 with
              | ins h0 h1 h2 h3 =>
                obtain ⟨Ca, g1, g2, g3⟩ := hc C hC
                have h0' : X.mg C = _ := h0
                rw [h0'] at g1
                cases g1
                obtain ⟨w, e1, e2⟩ := lookup_rel (ks := fs.map (·.1)) (d := d) h3 (by simp) (by rw [zip_self]; exact hl)
                exact ⟨_, _, _, _, w, rfl, h1, g2, g3, e1, PostR.here q1 R1 e2⟩
        · exact q1.elim
      · exact q1.elim
    | _ => exact q1.elim
/-! ### e.f = v, e a cell -/
def mSetFld (cs : List Str) (f : Str) (mo mv : M D) : MS := fun e S => (mv e S).bndS e fun d S1 => (mo e S1).bndS e fun o S2 => match o with
  | .ref n => match S2[n]? with
    | some (.ins C fs) => if C ∈ cs ∧ fs.length < 1000 then .nx e (S2.set n (.ins C (putFD f d fs))) else .stuck
    | _ => .stuck
  | _ => .stuck
theorem ss_setFld (hc : FldC X.K X.mg cs f) (ho : SE X T F W mo o) (hv : SE X T F W mv e) (hs : swapsWith e (some (.Attribute o f pos')) pos.line X.env = pure false := by rfl) : SS X T F W (mSetFld cs f mo mv) (.Assign [.Attribute o f pos'] e pos) :=
  PS.imp (ps_fld ho hv hs) fun D σ H ⟨φ, ow, S, env, R, q⟩ => lift_bS R q fun d S1 φ1 H1 v R1 s1 p1 r1 q1 => lift_bS R1 q1 fun od S2 φ2 H2 w R2 s2 p2 r2 q2 => by
    split at q2
    · rename_i n
      split at q2
      · rename_i C fs hS
        split at q2
        · rename_i hC
          cases r2 with
          | ref hr =>
            obtain ⟨a, Ca, dx, vs, k1, k2, k3, k4, R3, s3⟩ := R2.setIns (f := f) hS (r1.st s2 p2)
            rw [hr] at k1
            cases k1
            obtain ⟨Ca', g1, g2, g3⟩ := hc C hC.1
            have h0' : X.mg C = _ := k2
            rw [h0'] at g1
            cases g1
            exact ⟨_, _, _, _, rfl, k3, g2, g3, by omega, q2 φ2 ow σ _ R3 s3 (List.prefix_refl _)⟩
        · exact q2.elim
      · exact q2.elim
    · exact q2.elim
end
end DL
set_option Elab.async false
set_option linter.all false
set_option maxRecDepth 100000
/-! DO3: instances made; properties -/
namespace DL
open PySem PySem.Spec PyProof.Rows L2
mutual
/-- no cell from n on is named -/
def refOk (n : Nat) : D → Bool
  | .ref k => decide (k < n)
  | .tup ds => refsOk n ds
  | .lst ds => refsOk n ds
  | .obj _ _ ds => refsOk n ds
  | .xo1 _ _ _ d => refOk n d
  | _ => true
def refsOk (n : Nat) : List D → Bool
  | [] => true
  | d :: ds => refOk n d && refsOk n ds
end
section
variable {G : Gd} {φ φ' : List Addr} {U U2 : Addr → Prop} {H : Hp}
mutual
theorem Rep.cutr (hφ : φ <+: φ') (hU : ∀ a, U2 a → U a) : ∀ (d : D) (v : V), Rep G φ' U H v d → refOk φ.length d = true → Rep G φ U2 H v d
  | .non, _, h, _ => by cases h; exact .non
  | .bl _, _, h, _ => by cases h; exact .bl _
  | .int _, _, h, _ => by cases h; exact .int _
  | .str _, _, h, _ => by cases h; exact .str _
  | .adr _, _, h, _ => by cases h; exact .adr _
  | .xo1 a dd f d, _, h, k => by
    cases h with
    | xo1 h1 h2 h3 => exact .xo1 h1 (fun z => h2 (hU _ z)) (Rep.cutr hφ hU d _ h3 (by unfold refOk at k; exact k))
  | .tup ds, _, h, k => by
    have k : refsOk φ.length ds = true := by unfold refOk at k; exact k
    cases h with
    | tup h1 h2 h3 => exact .tup h1 (fun z => h2 (hU _ z)) (RepL.cutr hφ hU ds _ h3 k)
    | tupK h1 h3 => exact .tupK h1 (RepL.cutr hφ hU ds _ h3 k)
  | .lst ds, _, h, k => by
    have k : refsOk φ.length ds = true := by unfold refOk at k; exact k
    cases h with
    | lst h1 h2 h3 => exact .lst h1 (fun z => h2 (hU _ z)) (RepL.cutr hφ hU ds _ h3 k)
  | .ref n, _, h, k => by
    have k : n < φ.length := by unfold refOk at k; exact of_decide_eq_true k
    cases h with
    | ref h1 =>
      obtain ⟨t, rfl⟩ := hφ
      rw [List.getElem?_append_left k] at h1
      exact .ref h1
  | .glo _, _, h, _ => by
    cases h with
    | glo h1 h2 => exact .glo h1 h2
  | .scr ns, _, h, _ => by
    cases h with
    | scr h1 h2 h3 => exact .scr h1 h2 (fun z => h3 (hU _ z))
    | scrK h1 => exact .scrK h1
  | .emp, _, h, _ => by
    cases h with
    | emp h1 h2 => exact .emp h1 (fun z => h2 (hU _ z))
  | .obj C ks ds, _, h, k => by
    have k : refsOk φ.length ds = true := by unfold refOk at k; exact k
    cases h with
    | obj h0 h1 h3 h5 h6 => exact .obj h0 h1 (fun z => h3 (hU _ z)) h5 (RepL.cutr hφ hU ds _ h6 k)
theorem RepL.cutr (hφ : φ <+: φ') (hU : ∀ a, U2 a → U a) : ∀ (ds : List D) (vs : List V), RepL G φ' U H vs ds → refsOk φ.length ds = true → RepL G φ U2 H vs ds
  | [], _, h, _ => by cases h; exact .nil
  | d :: ds, _, h, k => by
    unfold refsOk at k
    obtain ⟨k1, k2⟩ := Bool.and_eq_true_iff.mp k
    cases h with
    | cons h1 h2 => exact .cons (Rep.cutr hφ hU d _ h1 k1) (RepL.cutr hφ hU ds _ h2 k2)
end
end

/-! ### C(..) -/
open Classical in
/-- the instance, handed on as data -/
noncomputable def finObj (S : Sto) : Res D → Res D
  | .ok r S3 => if r = .non ∧ S3.take S.length = S ∧ S3.length = S.length + 1 then (match S3[S.length]? with
    | some (.ins C fs) => if refsOk S.length (fs.map (·.2)) = true then .ok (.obj C (fs.map (·.1)) (fs.map (·.2))) S else .stuck
    | _ => .stuck) else .stuck
  | .exn c p S3 => .exn c p S3
  | .stuck => .stuck
noncomputable def mMake (C : Str) (np nk : Nat) (ix : List Nat) (n : Nat) (m : MF) (ml mk : M (List D)) : M D := fun env S => (ml env S).bnd fun ds S1 => (mk env S1).bnd fun es S2 =>
  if ds.length = np ∧ es.length = nk ∧ (pick ix (.ref S2.length :: (ds ++ es))).length = n then finObj S2 (m (pick ix (.ref S2.length :: (ds ++ es))) (S2 ++ [.ins C []])) else .stuck
/-- the class C at Ca, its maker at f -/
structure MakC (P : Program) (w : World) (K : PySem.W.Frag) (mg : Str → Option Value) (base : Heap) (T : List (Addr × Str)) (k : Nat) (np : Nat) (ks : List Str) (ix : List Nat) (C : Str) (n : Nat) (m : MF) : Prop where
  ex : ∃ (Ca f : Addr) (fd : FuncData) (ps : List Str), mg C = some (.ref Ca) ∧ L2.Mk K Ca f ∧ ps.length = n ∧ FnOk P w K mg base (L2.CX P w) k f fd ps (spOf ⟨K, mg, T⟩ n m) ∧
    ∀ (s : Shared) (us ws : List Value), K.In s.heap → us.length = np + 1 → ws.length = ks.length → BindsTo s fd ⟨us, ks.zip ws⟩ (ps.zip (pick ix (us ++ ws)))
section
variable {X : Cx} {T : List (Addr × Str)} {F : Fr} {W : WX} {e : Expr} {es : List Expr} {pos p kpos : Pos} {ma : M D} {ml mk : M (List D)} {k : Nat} {x : Str} {ps ks : List Str} {m : MF} {kws : List Keyword}
theorem PostR.exn_go {α β γ δ : Type} {G : Gd} {rp : RP α β} {rq : RP γ δ} {φ : List Addr} {ow : OW} {env : En} {σ : L2.St} {H : Hp} {c : Str} {q : Pay} {S : Sto} {Q : β → Hp → Prop} {Q' : δ → Hp → Prop} (h : PostR G F W rp φ ow env σ H (.exn c q S) Q) : PostR G F W rq φ ow env σ H (.exn c q S) Q' := h
theorem run_mk {np n : Nat} {ix : List Nat} {Ca : Addr} {pins : List (Addr × Obj)} {s : Shared} {σ : L2.St} {H : Hp} {Q : VK} (c : MakC X.prog X.w X.K X.mg X.base T k np ks ix x n m) (hCa : X.mg x = some (.ref Ca)) (hr : Room (k + 1) X.A) (tk : Takes X W) (ha : SC X T F W ml mk es kws ks) (I : Inv X pins σ H s)
    (h : LiftR (gX X T) F W (rpD (gX X T)) (mMake x np ks.length ix n m ml mk) σ H Q) :
    wpAny (model X.prog X.w) X.A (callWith pos (.ref Ca) [] (backTo pos (starEach es X.env)) (backToKw pos (keywordEach kws X.env))) (EP X pins σ Q) X.xe s := by
  obtain ⟨Ca', f, fd, ps, hm, M, hl, Fo, hb⟩ := c.ex
  rw [hCa] at hm
  cases hm
  obtain ⟨t, tk', C, h1, h2⟩ := ha
  obtain ⟨φ, ow, S, env, R, q⟩ := h
  refine C.run pos Ca pins s σ H _ (fun vs zs H2 => vs.length = np ∧ zs.length = ks.length ∧ ∀ xa dx, H2 xa = none → H2 dx = none → dx ≠ xa → spOf (gX X T) n m (pick ix ((V.ref xa :: vs) ++ zs)) (upd (upd H2 dx (.own xa)) xa (.ins Ca dx [])) (fun v H3 => v = .non ∧ Q (.ref xa) H3) (WE W σ)) I M.kp
    (h1 _ _ _ (lift_bnd R q fun ds S1 φ1 H1 vs R1 s1 p1 r1 q1 => h2 _ _ _ (lift_bnd R1 q1 fun es S2 φ2 H2 zs R2 s2 p2 r2 q2 => ?_))) fun us ws s2 vs zs H2 I2 rv rz ⟨l1, l2, hs⟩ => ?_
  · split at q2
    · rename_i hz
      obtain ⟨z1, z2, z3⟩ := hz
      refine ⟨(RepL.length r1).trans z1, (RepL.length r2).trans z2, fun xa dx hx hdx hne => ?_⟩
      obtain ⟨R3, s3⟩ := R2.newIns hCa hx hdx hne
      have r12 := (RepL.st r1 s2 p2).app r2
      have rr : RepL (gX X T) (φ2 ++ [xa]) (mutA F (φ2 ++ [xa]) ow) (upd (upd H2 dx (.own xa)) xa (.ins Ca dx [])) (V.ref xa :: (vs ++ zs)) (.ref S2.length :: (ds ++ es)) := .cons (.ref (by rw [R2.lenS]; simp)) (r12.st s3 (List.prefix_append _ _))
      refine spOf_call R3 ((RepL.length (rr.pick ix)).trans z3) (rr.pick ix) ?_
      cases hres : m (pick ix (.ref S2.length :: (ds ++ es))) (S2 ++ [.ins x []]) with
      | stuck => rw [hres] at q2; exact q2.elim
      | exn c' p' S4 =>
        rw [hres] at q2
        have q3 : PostR (gX X T) F W (rpD (gX X T)) φ2 ow env σ H2 (.exn c' p' S4) Q := q2
        exact PostR.exn_go (q3.go s3 (List.prefix_append _ _))
      | ok r S4 =>
        rw [hres] at q2
        unfold finObj at q2
        dsimp only at q2
        split at q2
        · rename_i hh
          obtain ⟨hr0, ht, hl4⟩ := hh
          split at q2
          · rename_i C' fs hS4
            split at q2
            · rename_i hro
              intro φ4 H4 v R4 s4 p4 rv4
              subst hr0
              refine ⟨rv4.ofNon, ?_⟩
              have e4 : S4 = S2 ++ [.ins C' fs] := by
                have : S4.drop S2.length = [.ins C' fs] := by
                  rw [List.drop_eq_getElem_cons (by omega)]
                  rw [(List.getElem?_eq_some_iff.mp hS4).2, List.drop_eq_nil_of_le (by omega)]
                rw [← List.take_append_drop S2.length S4, ht, this]
              have lφ : φ4.length = φ2.length + 1 := by rw [← R4.lenS, hl4, R2.lenS]
              have eφ : φ4 = φ2 ++ [xa] := by
                obtain ⟨u, hu⟩ := p4
                have : u = [] := by
                  have := congrArg List.length hu
                  simp at this
                  exact List.length_eq_zero_iff.mp (by omega)
                rw [← hu, this, List.append_nil]
              subst eφ
              subst e4
              obtain ⟨R5, s5⟩ := R2.retire R4
              obtain ⟨a, k1, k2⟩ := R4.cells S2.length (.ins C' fs) (by simp)
              have ea : a = xa := by
                rw [R2.lenS] at k1
                simp at k1
                exact k1.symm
              subst ea
              cases k2 with
              | ins g0 g1 g2 g3 =>
                have nφ : a ∉ φ2 := fun z => (R2.there a z).ne hx
                have nU : ¬ mutA F φ2 ow a := fun z => R2.mutT z hx
                exact (q2.go (s3.trans (s4.trans s5)) (List.prefix_refl _)).here R5 (.obj g0 g1 nU (by simp) (RepL.cutr (List.prefix_append _ _) (fun b hb => by
                  rcases hb with hb | hb | hb
                  · exact .inl hb
                  · exact .inr (.inl (List.mem_append_left _ hb))
                  · exact .inr (.inr hb)) _ _ g3 (by rw [← R2.lenS]; exact hro)))
            · exact q2.elim
          · exact q2.elim
        · exact q2.elim
    · exact q2.elim
  · have hq := hs (s2.heap.objs.size + 1) s2.heap.objs.size (I2.hok.fresh (Nat.le_succ _)) (I2.hok.fresh (Nat.le_refl _)) (Nat.ne_of_lt (Nat.lt_succ_self _))
    have I3 := Inv.made (C := Ca) I2
    have r1 : Vals (V.ref (s2.heap.objs.size + 1) :: vs) (Value.ref (s2.heap.objs.size + 1) :: us) := .cons rfl rv
    have r2 : Vals (pick ix ((V.ref (s2.heap.objs.size + 1) :: vs) ++ zs)) (pick ix ((Value.ref (s2.heap.objs.size + 1) :: us) ++ ws)) := Vals.pick (r1.append rz) ix
    have e1 : (Value.ref (s2.heap.objs.size + 1) :: us).length = np + 1 := r1.length.symm.trans (congrArg Nat.succ l1)
    have e2 : ws.length = ks.length := rz.length.symm.trans l2
    refine wpAny_call (make_map (f := f) I2.kIn M.makes M.init (beq_iff_eq.mp M.fn) (codeAny_mono (Fo.run _ X.stack _ _ ⟨Value.ref (s2.heap.objs.size + 1) :: us, ks.zip ws⟩ (pick ix ((Value.ref (s2.heap.objs.size + 1) :: us) ++ ws)) _ _ (WE W σ) (hr.make Ca us (ks.zip ws))
      (I3.env0.make Ca us (ks.zip ws)) (hb _ (Value.ref (s2.heap.objs.size + 1) :: us) ws I3.kIn e1 e2) r2 hq) fun r s' hq' => ?_))
    cases r with
    | error e => exact passAt tk σ pins _ _ e s' I3 hq'
    | ok fl =>
      cases fl with
      | ret u =>
        obtain ⟨v, H', I4, rv, ev, q3⟩ := I3.after hq'
        subst ev
        exact ⟨rv, ⟨V.ref (s2.heap.objs.size + 1), H', I4, rfl, q3⟩⟩
      | next => exact False.elim hq'
      | brk => exact False.elim hq'
      | cont => exact False.elim hq'
/-- C(e, .., k = v, ..) -/
theorem se_make {np n : Nat} {ix : List Nat} (c : MakC X.prog X.w X.K X.mg X.base T k np ks ix x n m) (hr : Room (k + 1) X.A) (tk : Takes X W) (hg : Gl X x) (ha : SC X T F W ml mk es kws ks) (hdb : (x == ("__debug__" : Str)) = false := by decide) :
    SE X T F W (mMake x np ks.length ix n m ml mk) (.Call (.Name x p) es kws pos) := by
  obtain ⟨Ca, f, fd, ps, hm, _⟩ := c.ex
  refine ⟨fun pins s σ H Q I h => ?_⟩
  refine wpAny_Call_Name_kw (ld_glob I hg hm ?_ hdb)
  exact run_mk c hm hr tk ha I h
end
end DL
set_option Elab.async false
set_option linter.all false
set_option maxRecDepth 100000
/-! DO4: properties, methods, isinstance of own classes -/
namespace DL
open PySem PySem.Spec PyProof.Rows L2
theorem cx_no {P : Program} {w : World} {o : List Env} {H : Hp} {s : Shared} {e : Value} {s' : Shared} (h : L2.CX P w o H s (fun _ _ _ => False) e s') : False := by
  obtain ⟨_, _, _, _, _, _, _, _, _, _, _, _, z⟩ := h
  exact z
/-! ### e.f, a property -/
def mProp (C : Str) (m : MF) (mo : M D) : M D := fun e S => (mo e S).bnd fun d S1 => match d with
  | .obj C' ks ds => if C' = C then noX (m [.obj C' ks ds] S1) else .stuck
  | _ => .stuck
structure PrC (P : Program) (w : World) (K : PySem.W.Frag) (mg : Str → Option Value) (base : Heap) (T : List (Addr × Str)) (k : Nat) (C f : Str) (m : MF) : Prop where
  ex : ∃ (Ca p g : Addr) (fd : FuncData) (ps : List Str), mg C = some (.ref Ca) ∧ Cls K Ca ∧ PropOf K Ca f p g ∧ FnOk P w K mg base (L2.CX P w) k g fd ps (spOf ⟨K, mg, T⟩ 1 m) ∧ Binds K fd ps []
section
variable {X : Cx} {T : List (Addr × Str)} {F : Fr} {W : WX} {o e : Expr} {es : List Expr} {pos p apos kpos : Pos} {mo ma : M D} {ml mk : M (List D)} {k : Nat} {f x : Str} {ps ks : List Str} {m : MF} {kws : List Keyword} {C : Str}
theorem post_nox {r : Res D} {φ : List Addr} {ow : OW} {env : En} {σ : L2.St} {H : Hp} {Q : VK} (h : PostR (gX X T) F W (rpD (gX X T)) φ ow env σ H (noX r) Q) : PostR (gX X T) F WNo (rpD (gX X T)) φ ow env σ H r Q := by
  cases r with
  | ok a S => exact h
  | exn c q S => exact h.elim
  | stuck => exact h.elim
theorem se_prop (c : PrC X.prog X.w X.K X.mg X.base T k C f m) (hr : Room (k + 1) X.A) (ho : SE X T F W mo o) (hb : attributeBase o f X.env (eval o X.env) = eval o X.env := by rfl) : SE X T F W (mProp C m mo) (.Attribute o f pos) := by
  obtain ⟨Ca, pa, g, fd, ps, h1, h2, h3, h4, h5⟩ := c.ex
  refine PE.imp (pe_prop ho h2 h3 h4 hr h5 .nil (E := fun _ _ _ => False) (fun _ _ _ _ _ _ _ z => (cx_no z).elim) hb) fun σ H Q ⟨φ, ow, S, env, R, q⟩ => lift_bnd R q fun d S1 φ1 H1 v R1 s1 p1 r1 q1 => ?_
  cases d with
  | obj C' ks ds =>
    dsimp only at q1
    split at q1
    · rename_i hC
      subst hC
      have r0 := r1
      cases r1 with
      | obj g0 g1 g2 g3 g4 =>
        have g0' : X.mg C' = _ := g0
        rw [g0'] at h1
        cases h1
        exact ⟨_, _, _, rfl, g1, spOf_call (W := WNo) R1 rfl (.cons r0 .nil) (post_nox q1)⟩
    · exact q1.elim
  | _ => exact q1.elim
/-! ### isinstance(e, C) -/
def tysN : List String := ["NoneType", "bool", "int", "str", "tuple", "list", "dict"]
def dIsO (cl : List Str) (C : Str) (S : Sto) : D → Option D
  | .obj C' _ _ => if C' ∈ cl then some (.bl (decide (C' = C))) else none
  | .ref n => match S[n]? with
    | some (.ins C' _) => if C' ∈ cl then some (.bl (decide (C' = C))) else none
    | _ => none
  | d => (tyName d).map fun _ => .bl false
structure ClK (K : PySem.W.Frag) (Cb : Addr) : Prop where
  cl : Cls K Cb
  ha : PySem.W.findIn K (.ref Cb) "__class__" = some (some (.builtin "object.__class__"))
  hm : PySem.W.mroIn K Cb (.type "object") = some true
structure IsC (K : PySem.W.Frag) (mg : Str → Option Value) (cl : List Str) (C : Str) : Prop where
  hn : PySem.W.specialIn K (.builtin "object.__class__") "__get__" = some (some (.builtin "getset_descriptor.__get__"))
  htk : PySem.W.takesIn K (.builtin "object.__class__") = some true
  ex : ∃ Ca, mg C = some (.ref Ca) ∧ (∀ t ∈ tysN, PySem.W.kitOne K (.type t) (.ref Ca) = some false) ∧ ∀ C' ∈ cl, ∃ Cb, mg C' = some (.ref Cb) ∧ ClK K Cb ∧ PySem.W.kitOne K (.ref Cb) (.ref Ca) = some (decide (C' = C))
theorem tyN_mem {d : D} {t : String} (h : tyName d = some t) : t ∈ tysN := by
  cases d <;> cases h <;> simp [tysN]
theorem se_isO {cl : List Str} {p2 : Pos} (c : IsC X.K X.mg cl C) (hg : Gl X "isinstance") (hm : X.mg "isinstance" = none) (hg2 : Gl X C) (ha : SB X T F W ma e) (hd2 : (C == ("__debug__" : Str)) = false := by decide)
    (hs : starEach [e, .Name C p2] X.env = (false, eval e X.env) :: starEach [.Name C p2] X.env := by rfl) : SE X T F W (mUn (dIsO cl C) ma) (.Call (.Name "isinstance" p) [e, .Name C p2] [] pos) := by
  obtain ⟨Ca, h1, h2, h3⟩ := c.ex
  refine PE.imp (pe_callB (t := tCons (LiftR (gX X T) F W (rpB (gX X T)) ma) (tCons (tC (.ref Ca)) tNil)) call_isi hg hm PyProof.Rows.boot_isinstance (pa_cons ha (pa_cons (pe_glob (v := .ref Ca) hg2 h1 rfl hd2) pa_nil) hs) (he := hs)) fun σ H Q ⟨φ, ow, S, env, R, q⟩ => ?_
  refine lift_bnd R q fun d S1 φ1 H1 v R1 s1 p1 r1 q1 => ?_
  have fin : ∀ (t : Value) (b : Bool), TyX X.K H1 v t → PySem.W.kitOne X.K t (.ref Ca) = some b → dIsO cl C S1 d = some (.bl b) → rIsi X.K [v, .ref Ca] H1 Q := fun t b ht hk he => by
    rw [he] at q1
    exact ⟨v, .ref Ca, t, .ref Ca, b, rfl, .own Ca, ht, hk, PostR.here q1 R1 (.bl b)⟩
  have basic : ∀ t, tyName d = some t → dIsO cl C S1 d = some (.bl false) → rIsi X.K [v, .ref Ca] H1 Q := fun t ht he => fin (.type t) false (RepH.ty (rpB.h R1 r1) ht) (h2 t (tyN_mem ht)) he
  cases d with
  | obj C' ks ds =>
    by_cases hC : C' ∈ cl
    · obtain ⟨Cb, g1, g2, g3⟩ := h3 C' hC
      have rr := (rpB.h R1 r1).rep (fun _ z => by cases z)
      cases rr with
      | obj k0 k1 k2 k3 k4 =>
        have k0' : X.mg C' = _ := k0
        rw [k0'] at g1
        cases g1
        exact fin _ _ (.base (.ins k1 g2.cl g2.ha c.hn c.htk g2.hm)) g3 (by simp [dIsO, hC])
    · have : dIsO cl C S1 (.obj C' ks ds) = none := by simp [dIsO, hC]
      rw [this] at q1
      exact q1.elim
  | ref n =>
    cases hS : S1[n]? with
    | none =>
      have : dIsO cl C S1 (.ref n) = none := by simp [dIsO, hS]
      rw [this] at q1
      exact q1.elim
    | some cell =>
      cases cell with
      | lst ds =>
        have : dIsO cl C S1 (.ref n) = none := by simp [dIsO, hS]
        rw [this] at q1
        exact q1.elim
      | ins C' fs =>
        by_cases hC : C' ∈ cl
        · obtain ⟨Cb, g1, g2, g3⟩ := h3 C' hC
          have rr := (rpB.h R1 r1).rep (fun _ z => by cases z)
          cases rr with
          | ref hr =>
            obtain ⟨a, k1, k2⟩ := R1.cells n _ hS
            rw [hr] at k1
            cases k1
            cases k2 with
            | ins j0 j1 j2 j3 =>
              have j0' : X.mg C' = _ := j0
              rw [j0'] at g1
              cases g1
              exact fin _ _ (.base (.ins j1 g2.cl g2.ha c.hn c.htk g2.hm)) g3 (by simp [dIsO, hS, hC])
        · have : dIsO cl C S1 (.ref n) = none := by simp [dIsO, hS, hC]
          rw [this] at q1
          exact q1.elim
  | non => exact basic _ rfl rfl
  | bl b => exact basic _ rfl rfl
  | int b => exact basic _ rfl rfl
  | str b => exact basic _ rfl rfl
  | tup b => exact basic _ rfl rfl
  | lst b => exact basic _ rfl rfl
  | scr b => exact basic _ rfl rfl
  | emp => exact basic _ rfl rfl
  | adr _ => exact q1.elim
  | xo1 _ _ _ _ => exact q1.elim
  | glo _ => exact q1.elim
end
end DL
set_option Elab.async false
set_option linter.all false
set_option maxRecDepth 100000
/-! DO5: == and != by an own __eq__ -/
namespace PySem.W
open PySem PySem.Spec
section
variable {prog : Program} {w : World} {A : Around} {E : Value → Shared → Prop} {s : Shared} {K : Frag} {x C L f : Addr} {h₀ : Heap} {m : Str → Option Value} {ox : Obj} {od : Option Obj} {b tb : Value}
theorem check_ne {rest : List Value} {Q : Unit → Shared → Prop} (X : K.In s.heap) (I : InstAt s.heap x ox C od) (hm : mroIn K C (.type "object") = some true) (ha : argsOk "object.__ne__" ⟨.ref x :: rest, []⟩) (hq : Q () s) :
    wpAny (model prog w) A (checkBuiltinCall "object.__ne__" ⟨.ref x :: rest, []⟩) Q E s := by
  have t2 : Looks (model prog w) s.heap (isInstance (.ref x) (.type "object")) true := I.type.andThen (looks_mroIn X hm)
  simp only [checkBuiltinCall, F.cmpKind_ne, F.cmpSplit_ne]
  refine wpAny_bind (t2.here ?_)
  cases hsig : Manifest.signature? "object.__ne__" with
  | none => exact wpAny_pure hq
  | some sig =>
    simp only [argsOk, hsig] at ha
    have h2 : Bind.checkArgs "object.__ne__" sig ⟨.ref x :: rest, []⟩ = pure () := ha
    show wpAny _ A (Bind.checkArgs "object.__ne__" sig ⟨.ref x :: rest, []⟩) Q E _
    rw [h2]; exact wpAny_pure hq
theorem ne_K {Q : Value → Shared → Prop} (hu : A.units + 1 < cLine) (X : K.In s.heap) (I : InstAt s.heap x ox C od) (hb : Looks (model prog w) s.heap (typeOf b) tb) (hn : notFirst K C tb = true) (hm : mroIn K C (.type "object") = some true)
    (hs : findIn K (.ref C) "__ne__" = some (some (.builtin "object.__ne__"))) (he : findIn K (.ref C) "__eq__" = some (some (.ref f))) (hf : isFn K (.ref f) = true)
    (h : wpAny (model prog w) A.in1 (call (.ref f) [.ref x, b]) (fun v s' => ∃ k, v = .bool k ∧ Q (.bool (!k)) s') E s) : wpAny (model prog w) A (richCompare .NotEq (.ref x) b) Q E s := by
  have S : Slot "object" "__ne__" "object.__ne__" := PySem.F.cmp_object.ne
  have entry : wpAny (model prog w) A.in1 (Builtin.«object.__ne__» ⟨[.ref x, b], []⟩) (fun fin s' => ∃ k, fin = .done (.ret (.bool (!k))) ∧ Q (.bool (!k)) s') E s := by
    unfold Builtin.«object.__ne__»
    have hu1 : A.in1.units < cLine := hu
    have eq1 : wpAny (model prog w) A.in1 (callSpecialIfBound? (.ref x) "__eq__" [b]) (fun r s' => ∃ k, r = some (.bool k) ∧ Q (.bool (!k)) s') E s := ifBound_K X I he hf (wpAny_mono h (fun v s' ⟨k, e1, e2⟩ => ⟨k, by rw [e1], e2⟩) fun _ _ e => e)
    repeat (first | with_reducible refine wpAny_cRoomFor hu1 ?_ | (with_reducible refine wpAny_bind (wpAny_mono eq1 (fun r s' z => ?_) fun _ _ e => e); obtain ⟨k, rfl, hq⟩ := z) | wp_step)
    exact ⟨k, rfl, hq⟩
  have call1 : wpAny (model prog w) A (call (.builtin "object.__ne__") [.ref x, b]) (fun v s' => ∃ k, v = .bool (!k) ∧ Q (.bool (!k)) s') E s :=
    wpAny_call (codeAny_call_builtin S.plain PySem.F.cmpEntry_ne (check_ne X I hm (PySem.F.cmpArgs_ne _ _) (wpAny_mono entry (fun v s' ⟨k, e1, e2⟩ => by
      subst e1
      exact ⟨k, rfl, e2⟩) fun _ _ e => e)))
  have one : wpAny (model prog w) A (tryCompare (.ref x) "__ne__" b) (fun r s' => ∃ v, r = some v ∧ Q v s') E s := by
    unfold tryCompare
    refine wpAny_bind ?_
    simp only [callSpecialIfBound?, bindSpecialIfBound?]
    refine wpAny_holding (wpAny_bind (wpAny_bind (wpAny_bind (I.type.here ((looks_findIn X hs).here ?_)))))
    refine wpAny_bind (wpAny_askSetting (wpAny_ite ?_))
    split
    · simp only [S.bind]
      refine wpAny_bind (wpAny_pure (wpAny_pure ?_))
      refine wpAny_bind (wpAny_mono call1 (fun v s' z => ?_) fun _ _ h' => h')
      obtain ⟨k, e1, e2⟩ := z
      subst e1
      exact wpAny_pure (wpAny_pure ⟨_, rfl, e2⟩)
    · simp only [S.bind]
      refine wpAny_tryCatch (wpAny_bind (wpAny_pure (wpAny_pure ?_)))
      refine wpAny_bind (wpAny_mono call1 (fun v s' z => ?_) fun _ _ h' => h')
      obtain ⟨k, e1, e2⟩ := z
      subst e1
      exact wpAny_pure (wpAny_pure ⟨_, rfl, e2⟩)
  unfold richCompare
  simp only [oneThing_ref]
  refine wpAny_holding (wpAny_bind (wpAny_cRoomFor (Nat.lt_of_succ_lt hu) ?_))
  refine wpAny_bind (I.type.here (wpAny_bind (hb.here ?_)))
  split
  · rename_i q
    have e : subIn K tb (.ref C) = some false := by
      rcases Bool.or_eq_true_iff.mp hn with e | e
      · rw [beq_iff_eq.mp e] at q; simp at q
      · exact beq_iff_eq.mp e
    refine wpAny_bind ((looks_subIn X e).here ?_)
    simp only [Bool.false_eq_true, if_false]
    refine wpAny_bind (wpAny_mono one (fun r s' z => ?_) fun _ _ e => e)
    obtain ⟨v, rfl, hq⟩ := z
    exact wpAny_pure hq
  · refine wpAny_bind (wpAny_pure ?_)
    simp only [Bool.false_eq_true, if_false]
    refine wpAny_bind (wpAny_mono one (fun r s' z => ?_) fun _ _ e => e)
    obtain ⟨v, rfl, hq⟩ := z
    exact wpAny_pure hq
end
end PySem.W
namespace DL
open PySem PySem.Spec PyProof.Rows L2
inductive YT (K : PySem.W.Frag) (H : Hp) : V → Value → Prop where
  | tup {l : Addr} {xs : List V} : SqT K H l xs → YT K H (.ref l) (.type "tuple")
  | ins {a C dx : Addr} {fs : List (Str × V)} : H a = some (.ins C dx fs) → YT K H (.ref a) (.ref C)
structure EqC (P : Program) (w : World) (K : PySem.W.Frag) (mg : Str → Option Value) (base : Heap) (T : List (Addr × Str)) (k : Nat) (cl : List Str) (C : Str) (m : MF) : Prop where
  ex : ∃ (Ca f : Addr) (fd : FuncData) (ps : List Str), mg C = some (.ref Ca) ∧ PySem.W.findIn K (.ref Ca) "__eq__" = some (some (.ref f)) ∧ PySem.W.findIn K (.ref Ca) "__ne__" = some (some (.builtin "object.__ne__")) ∧
    PySem.W.isFn K (.ref f) = true ∧ PySem.W.mroIn K Ca (.type "object") = some true ∧ PySem.W.subIn K (.type "tuple") (.ref Ca) = some false ∧ (∀ C' ∈ cl, ∃ Cb, mg C' = some (.ref Cb) ∧ PySem.W.notFirst K Ca (.ref Cb) = true) ∧
    FnOk P w K mg base (L2.CX P w) k f fd ps (spOf ⟨K, mg, T⟩ 2 m) ∧ Binds K fd ps []
section
variable {X : Cx} {T : List (Addr × Str)} {F : Fr} {W : WX} {a b : Expr} {pos : Pos} {ma mb : M D} {k : Nat} {m : MF} {C : Str} {cl : List Str} {Ca f : Addr} {fd : FuncData} {ps : List Str}
theorem YT.looks {M : Model} {pins : List (Addr × Obj)} {σ : L2.St} {H : Hp} {s : Shared} {y : V} {u tb : Value} (I : Inv X pins σ H s) (ry : RelV y u) (h : YT X.K H y tb) : PySem.W.Looks M s.heap (typeOf u) tb := by
  cases h with
  | tup hs =>
    obtain rfl : u = _ := ry
    obtain ⟨its, _, hi⟩ := DY.seqK (t := true) I hs
    obtain ⟨o, ho, hc, _⟩ := hi
    exact (PySem.W.Looks.ld ho).andThen (by rw [hc]; exact .now)
  | ins ha =>
    obtain rfl : u = _ := ry
    obtain ⟨mA, J, _⟩ := ins_get I.hok ha
    obtain ⟨od, J, _⟩ := J.look
    exact J.type
def rOwn (K : PySem.W.Frag) (Ca : Addr) (sp : Sp) (g : Bool → Bool) : R2 := fun x y H Q => ∃ a dx fs tb, x = .ref a ∧ H a = some (.ins Ca dx fs) ∧ YT K H y tb ∧ PySem.W.notFirst K Ca tb = true ∧ sp [x, y] H (fun v H' => ∃ k, v = .bl k ∧ Q (.bl (g k)) H') (fun _ _ _ => False)
theorem op_ownEq {sp : Sp} (h1 : PySem.W.findIn X.K (.ref Ca) "__eq__" = some (some (.ref f))) (h2 : PySem.W.isFn X.K (.ref f) = true) (Fo : FnOk X.prog X.w X.K X.mg X.base (L2.CX X.prog X.w) k f fd ps sp) (hb : Binds X.K fd ps []) (hr : Room (k + 1) X.A) :
    OpR X (compareOp .Eq) (rOwn X.K Ca sp id) := by
  intro pins s σ H x y v u Q I rx ry hq
  obtain ⟨a, dx, fs, tb, rfl, ha, hy, hn, hsp⟩ := hq
  obtain rfl : v = _ := rx
  show wpAny (model X.prog X.w) X.A (richCompare .Eq (.ref a) u) (EP X pins σ Q) X.xe s
  obtain ⟨mA, J, _⟩ := ins_get I.hok ha
  obtain ⟨od, J, _⟩ := J.look
  obtain ⟨m, hF⟩ := I.fr
  have hl := Fo.len _ _ _ _ hsp
  refine PySem.W.cmp_K (op := .Eq) (tb := tb) (by have := hr.un; omega) hF I.ok.mod.kin J (hy.looks I ry) hn h1 h2 ?_
  refine wpAny_call (codeAny_mono (Fo.run X.A X.stack s H ⟨[.ref a, u], []⟩ [.ref a, u] [V.ref a, y] _ _ (hr.mono (Nat.le_succ _)) I.env0 (by
    have := hb s [.ref a, u] I.kIn (by simpa using hl)
    simpa using this) (.cons rfl (.cons ry .nil)) hsp) fun r s' hq => ?_)
  cases r with
  | error e => exact (cx_no hq).elim
  | ok fl =>
    cases fl with
    | ret w =>
      obtain ⟨z, H', I', rz, kk, ez, q⟩ := I.after hq
      subst ez
      cases rz
      exact ⟨V.bl kk, H', I', rfl, q⟩
    | next => exact False.elim hq
    | brk => exact False.elim hq
    | cont => exact False.elim hq
theorem op_ownNe {sp : Sp} (h1 : PySem.W.findIn X.K (.ref Ca) "__eq__" = some (some (.ref f))) (h3 : PySem.W.findIn X.K (.ref Ca) "__ne__" = some (some (.builtin "object.__ne__"))) (h4 : PySem.W.mroIn X.K Ca (.type "object") = some true) (h2 : PySem.W.isFn X.K (.ref f) = true) (Fo : FnOk X.prog X.w X.K X.mg X.base (L2.CX X.prog X.w) k f fd ps sp) (hb : Binds X.K fd ps []) (hr : Room (k + 1) X.A) :
    OpR X (compareOp .NotEq) (rOwn X.K Ca sp not) := by
  intro pins s σ H x y v u Q I rx ry hq
  obtain ⟨a, dx, fs, tb, rfl, ha, hy, hn, hsp⟩ := hq
  obtain rfl : v = _ := rx
  show wpAny (model X.prog X.w) X.A (richCompare .NotEq (.ref a) u) (EP X pins σ Q) X.xe s
  obtain ⟨mA, J, _⟩ := ins_get I.hok ha
  obtain ⟨od, J, _⟩ := J.look
  have hl := Fo.len _ _ _ _ hsp
  refine PySem.W.ne_K (tb := tb) (by have := hr.un; omega) I.kIn J (hy.looks I ry) hn h4 h3 h1 h2 ?_
  refine wpAny_call (codeAny_mono (Fo.run X.A.in1 X.stack s H ⟨[.ref a, u], []⟩ [.ref a, u] [V.ref a, y] _ _ hr.in1 I.env0.in1 (by
    have := hb s [.ref a, u] I.kIn (by simpa using hl)
    simpa using this) (.cons rfl (.cons ry .nil)) hsp) fun r s' hq => ?_)
  cases r with
  | error e => exact (cx_no hq).elim
  | ok fl =>
    cases fl with
    | ret w =>
      obtain ⟨z, H', I', rz, kk, ez, q⟩ := I.after hq
      subst ez
      cases rz
      exact ⟨kk, rfl, ⟨V.bl (!kk), H', I', rfl, q⟩⟩
    | next => exact False.elim hq
    | brk => exact False.elim hq
    | cont => exact False.elim hq
/-- a == b, a != b, a an instance of C -/
def cmpB (cl : List Str) : D → Bool
  | .obj C _ _ => decide (C ∈ cl)
  | .tup _ => true
  | _ => false
def mCmpO (C : Str) (cl : List Str) (m : MF) (g : Bool → Bool) (ma mb : M D) : M D := fun e S => (ma e S).bnd fun a S1 => (mb e S1).bnd fun b S2 => match a with
  | .obj C' ks ds => if C' = C ∧ cmpB cl b = true then (noX (m [.obj C' ks ds, b] S2)).bnd fun r S3 => (match r with
    | .bl k => .ok (.bl (g k)) S3
    | _ => .stuck) else .stuck
  | _ => .stuck
theorem lift_cmpO {g : Bool → Bool} (hCa : X.mg C = some (.ref Ca)) (h5 : PySem.W.subIn X.K (.type "tuple") (.ref Ca) = some false) (h6 : ∀ C' ∈ cl, ∃ Cb, X.mg C' = some (.ref Cb) ∧ PySem.W.notFirst X.K Ca (.ref Cb) = true) (σ : L2.St) (H : Hp) (Q : VK)
    (h : LiftR (gX X T) F W (rpD (gX X T)) (mCmpO C cl m g ma mb) σ H Q) : tOp (rOwn X.K Ca (spOf (gX X T) 2 m) g) (LiftR (gX X T) F W (rpB (gX X T)) ma) (LiftR (gX X T) F W (rpB (gX X T)) mb) σ H Q := by
  obtain ⟨φ, ow, S, env, R, q⟩ := h
  refine lift_bnd R q fun d1 S1 φ1 H1 v1 R1 s1 p1 r1 q1 => lift_bnd R1 q1 fun d2 S2 φ2 H2 v2 R2 s2 p2 r2 q2 => ?_
  cases d1 with
  | obj C' ks ds =>
    dsimp only at q2
    split at q2
    · rename_i hh
      obtain ⟨rfl, hc⟩ := hh
      have rr := ((r1.st s2 p2).h R2).rep (fun _ z => by cases z)
      have r0 := rr
      have rb : Rep (gX X T) φ2 (mutA F φ2 ow) H2 v2 d2 := (r2.h R2).rep (fun _ z => by rw [z] at hc; cases hc)
      cases rr with
      | obj g0 g1 g2 g3 g4 =>
        have g0' : X.mg C' = _ := g0
        rw [hCa] at g0'
        cases g0'
        have hy : ∃ tb, YT X.K H2 v2 tb ∧ PySem.W.notFirst X.K Ca tb = true := by
          cases d2 with
          | obj C2 ks2 ds2 =>
            have hm : C2 ∈ cl := by simpa [cmpB] using hc
            obtain ⟨Cb, e1, e2⟩ := h6 C2 hm
            cases rb with
            | obj k0 k1 k2 k3 k4 =>
              have k0' : X.mg C2 = _ := k0
              rw [e1] at k0'
              cases k0'
              exact ⟨_, .ins k1, e2⟩
          | tup ds2 =>
            obtain ⟨a, vs, rfl, e1, _⟩ := rb.ofTup
            exact ⟨_, .tup e1, by simp [PySem.W.notFirst, h5]⟩
          | _ => cases hc
        obtain ⟨tb, y1, y2⟩ := hy
        refine ⟨_, _, _, tb, rfl, g1, y1, y2, spOf_call (W := WNo) R2 rfl (.cons r0 (.cons rb .nil)) ?_⟩
        cases hres : m [.obj C' ks ds, d2] S2 with
        | stuck => rw [hres] at q2; exact q2.elim
        | exn c p S3 => rw [hres] at q2; exact q2.elim
        | ok r S3 =>
          rw [hres] at q2
          cases r with
          | bl kk =>
            intro φ3 H3 v R3 s3 p3 rv
            exact ⟨kk, rv.ofBl, q2 φ3 H3 _ R3 s3 p3 (.bl _)⟩
          | _ => exact q2.elim
    · exact q2.elim
  | _ => exact q2.elim
theorem se_eqO (c : EqC X.prog X.w X.K X.mg X.base T k cl C m) (hr : Room (k + 1) X.A) (ha : SB X T F W ma a) (hb : SB X T F W mb b) (hm : behindInMarks .Eq b = false := by rfl) : SE X T F W (mCmpO C cl m id ma mb) (.Compare a [.Eq] [b] pos) := by
  obtain ⟨Ca, f, fd, ps, h0, h1, h2, h3, h4, h5, h6, h7, h8⟩ := c.ex
  exact PE.imp (pe_cmpR (op_ownEq h1 h3 h7 h8 hr) ha hb hm) (lift_cmpO h0 h5 h6)
theorem se_neO (c : EqC X.prog X.w X.K X.mg X.base T k cl C m) (hr : Room (k + 1) X.A) (ha : SB X T F W ma a) (hb : SB X T F W mb b) (hm : behindInMarks .NotEq b = false := by rfl) : SE X T F W (mCmpO C cl m not ma mb) (.Compare a [.NotEq] [b] pos) := by
  obtain ⟨Ca, f, fd, ps, h0, h1, h2, h3, h4, h5, h6, h7, h8⟩ := c.ex
  exact PE.imp (pe_cmpR (op_ownNe h1 h2 h4 h3 h7 h8 hr) ha hb hm) (lift_cmpO h0 h5 h6)
end
end DL
set_option Elab.async false
set_option linter.all false
set_option maxRecDepth 100000
/-! DY5: tables of defs -/
namespace DL
open PySem PySem.Spec PyProof.Rows L2
theorem tab_in {l : List (Str × Nat × MF)} {y : Str} {n : Nat} {m : MF} (h : tabF l y = some (n, m)) : (y, n, m) ∈ l := by
  unfold tabF at h
  cases e : l.find? (fun q => q.1 == y) with
  | none => rw [e] at h; cases h
  | some q =>
    rw [e] at h
    have h1 := List.mem_of_find?_eq_some e
    have h2 := List.find?_some e
    have h3 : q.1 = y := by simpa using h2
    have h4 : q.2 = (n, m) := by simpa using h
    obtain ⟨a, b⟩ := q
    cases h3
    cases h4
    exact h1
theorem tab_cases1 {mg : Str → Option Value} {R : Addr → Nat → MF → Prop} {x1 y : Str} {n1 n : Nat} {m1 m : MF} (h : tabF [(x1, n1, m1)] y = some (n, m)) (c1 : ∃ f, mg x1 = some (.ref f) ∧ R f n1 m1) : ∃ f, mg y = some (.ref f) ∧ R f n m := by
  have := tab_in h
  simp only [List.mem_cons, List.not_mem_nil, or_false, Prod.mk.injEq] at this
  obtain ⟨rfl, rfl, rfl⟩ := this
  exact c1
theorem tab_cases3 {mg : Str → Option Value} {R : Addr → Nat → MF → Prop} {x1 x2 x3 y : Str} {n1 n2 n3 n : Nat} {m1 m2 m3 m : MF} (h : tabF [(x1, n1, m1), (x2, n2, m2), (x3, n3, m3)] y = some (n, m)) (c1 : ∃ f, mg x1 = some (.ref f) ∧ R f n1 m1) (c2 : ∃ f, mg x2 = some (.ref f) ∧ R f n2 m2) (c3 : ∃ f, mg x3 = some (.ref f) ∧ R f n3 m3) : ∃ f, mg y = some (.ref f) ∧ R f n m := by
  have := tab_in h
  simp only [List.mem_cons, List.not_mem_nil, or_false, Prod.mk.injEq] at this
  rcases this with ⟨rfl, rfl, rfl⟩ | ⟨rfl, rfl, rfl⟩ | ⟨rfl, rfl, rfl⟩ <;> assumption
theorem tab_cases4 {mg : Str → Option Value} {R : Addr → Nat → MF → Prop} {x1 x2 x3 x4 y : Str} {n1 n2 n3 n4 n : Nat} {m1 m2 m3 m4 m : MF} (h : tabF [(x1, n1, m1), (x2, n2, m2), (x3, n3, m3), (x4, n4, m4)] y = some (n, m)) (c1 : ∃ f, mg x1 = some (.ref f) ∧ R f n1 m1) (c2 : ∃ f, mg x2 = some (.ref f) ∧ R f n2 m2) (c3 : ∃ f, mg x3 = some (.ref f) ∧ R f n3 m3) (c4 : ∃ f, mg x4 = some (.ref f) ∧ R f n4 m4) : ∃ f, mg y = some (.ref f) ∧ R f n m := by
  have := tab_in h
  simp only [List.mem_cons, List.not_mem_nil, or_false, Prod.mk.injEq] at this
  rcases this with ⟨rfl, rfl, rfl⟩ | ⟨rfl, rfl, rfl⟩ | ⟨rfl, rfl, rfl⟩ | ⟨rfl, rfl, rfl⟩ <;> assumption
end DL
set_option Elab.async false
set_option linter.all false
set_option maxRecDepth 100000
set_option maxHeartbeats 1000000
/-! DK: plain meanings that all laws have: wrong_at -/
namespace SR
open PySem PySem.Spec PyProof.Rows L2 DL LamX
def t_wrong_at (f : Addr) (act : MF) : MS := mSeq (mIfS (mOrT (mNotT (mTest (mUn (dIsi "tuple") (mVar 0)))) (mTest (mOp (dCmp fun i j => decide (i < j)) (mCB dLen (mCons (mVar 0) (mNil))) (mVar 1)))) (mRet (mLsV (mNewL (mCons (mC .non) (mNil))))) (mNext)) (mSeq (mFor (mEnum (mCons (mVar 0) (mNil))) (mgTup 2 (mgCons (mgName 4) (mgCons (mgName 5) (mgNil)))) (mIfS (mOrT (mTest (mOp (dCmp fun i j => decide (j ≤ i)) (mVar 4) (mVar 2))) (mNotT (mTest (mApp 3 f 2 act (mCons (mSl dSl (mVar 0) (mC none) (mPart (mVar 4))) (mCons (mVar 5) (mNil))))))) (mRet (mLsV (mNewL (mCons (mVar 4) (mNil))))) (mNext))) (mRet (mLsV (mNewL (mNil)))))
def wrongL (act : MF) (xs : List D) (most : Int) : Nat → List D → Sto → Res D
  | _, [], S => .ok (.lst []) S
  | i, d :: ds, S => if most ≤ (i : Int) then .ok (.lst [.int (i : Nat)]) S else (act [.tup (xs.take i), d] S).bnd fun r S1 => match r with
    | .bl true => wrongL act xs most (i + 1) ds S1
    | .bl false => .ok (.lst [.int (i : Nat)]) S1
    | _ => .stuck
def f_wrong_at (act : MF) : MF := fun ds S => match ds with
  | [.tup xs, .int least, .int most] => if (xs.length : Int) < least then .ok (.lst [.non]) S else wrongL act xs most 0 xs S
  | [v, .int least, .int most] => if tyName v = none ∨ tyName v = some "tuple" then .stuck else .ok (.lst [.non]) S
  | _ => .stuck
theorem cut_take {α : Type} (xs : List α) (i : Nat) (h : i ≤ xs.length) : cutL xs none (some (i : Int)) = xs.take i := by
  unfold cutL
  have e1 : HT.sIx xs.length 0 none = 0 := rfl
  have e2 : HT.sIx xs.length xs.length (some (i : Int)) = i := by
    unfold HT.sIx
    have : ¬ (i : Int) < 0 := by omega
    simp [this]
    omega
  rw [e1, e2]
  simp
theorem wrong_loop (f : Addr) (act : MF) (xs : List D) (v1 : D) (most : Int) : ∀ (ds : List D) (i : Nat) (s4 s5 : Slot) (S : Sto), xs.drop i = ds → wrongL act xs most i ds S ≠ .stuck →
    endF (match loopS (mBody (mgTup 2 (mgCons (mgName 4) (mgCons (mgName 5) (mgNil)))) (mIfS (mOrT (mTest (mOp (dCmp fun i j => decide (j ≤ i)) (mVar 4) (mVar 2))) (mNotT (mTest (mApp 3 f 2 act (mCons (mSl dSl (mVar 0) (mC none) (mPart (mVar 4))) (mCons (mVar 5) (mNil))))))) (mRet (mLsV (mNewL (mCons (mVar 4) (mNil))))) (mNext)))
      (ds.mapIdx fun j d => D.tup [.int ((i + j : Nat) : Int), d]) [.val (.tup xs), .val v1, .val (.int most), .val (.adr f), s4, s5] S with | .nx e1 S1 => mRet (mLsV (mNewL (mNil))) e1 S1 | r => r) = wrongL act xs most i ds S
  | [], i, s4, s5, S, _, _ => by simp [wrongL]
  | d :: ds, i, s4, s5, S, hd, hn => by
    have hi : i < xs.length := by
      refine Nat.lt_of_not_le fun h => ?_
      rw [List.drop_eq_nil_of_le h] at hd
      cases hd
    have hd' : xs.drop (i + 1) = ds := by
      rw [← List.tail_drop, hd]
      rfl
    have ih := wrong_loop f act xs v1 most ds (i + 1)
    have em : (d :: ds).mapIdx (fun j d => D.tup [.int ((i + j : Nat) : Int), d]) = D.tup [.int (i : Nat), d] :: ds.mapIdx (fun j d => D.tup [.int ((i + 1 + j : Nat) : Int), d]) := by
      rw [List.mapIdx_cons]
      congr 1
      congr 1
      funext j d
      congr 4
      omega
    rw [em]
    unfold wrongL at hn ⊢
    unfold loopS
    by_cases hm : most ≤ (i : Int)
    · simp [hm, dCmp]
    · rw [if_neg hm] at hn ⊢
      have ec := cut_take xs i (Nat.le_of_lt hi)
      cases ea : act [.tup (xs.take i), d] S with
      | stuck => rw [ea] at hn; exact absurd rfl hn
      | exn c p S1 => simp [hm, dCmp, dSl, ec, ea]
      | ok r S1 =>
        rw [ea] at hn
        simp only [ev_bk] at hn ⊢
        cases r with
        | bl b =>
          cases b with
          | true =>
            have := ih (.val (.int i)) (.val d) S1 hd' hn
            simpa [hm, dCmp, dSl, ec, ea] using this
          | false => simp [hm, dCmp, dSl, ec, ea]
        | _ => exact absurd rfl hn
theorem eq_wrong_at (f : Addr) (act : MF) (ds : List D) (S : Sto) (hl : ds.length = 3) (hn : f_wrong_at act ds S ≠ .stuck) : runF 6 (t_wrong_at f act) (ds ++ [.adr f]) S = f_wrong_at act ds S := by
  match ds, hl with
  | [v, l, m], _ =>
    cases l with
    | int least =>
      cases m with
      | int most =>
        cases v with
        | tup xs =>
          have e0 : f_wrong_at act [.tup xs, .int least, .int most] S = if (xs.length : Int) < least then .ok (.lst [.non]) S else wrongL act xs most 0 xs S := rfl
          rw [e0] at hn ⊢
          by_cases h : (xs.length : Int) < least
          · simp [t_wrong_at, startE, dIsi, tyName, subTy, dLen, lenOf, dCmp, h]
          · rw [if_neg h] at hn ⊢
            have := wrong_loop f act xs (.int least) most xs 0 .hid .hid S (by simp) hn
            simp at this
            simp [t_wrong_at, startE, dIsi, tyName, subTy, dLen, lenOf, dCmp, h, enumOf, itemsL, enumL]
            exact this
        | _ => first | exact absurd rfl hn | (simp [t_wrong_at, startE, dIsi, tyName, subTy, f_wrong_at])
      | _ => cases v <;> exact absurd rfl hn
    | _ => cases v <;> exact absurd rfl hn

end SR
set_option Elab.async false
set_option linter.all false
set_option maxRecDepth 100000
namespace SR
open PySem PySem.Spec PyProof.Rows L2 DL LamX
def t_is_whole : MS := mRet (mAnd (mUn (dIsi "int") (mVar 0)) (mNot (mUn (dIsi "bool") (mVar 0))))
def f_is_whole : MF := runF 1 t_is_whole
def t_is_from : MS := mRet (mAnd (mCall 1 0 [0] 1 f_is_whole (mCons (mVar 0) (mNil)) (mNil)) (mChain (dCmp fun i j => decide (i ≤ j)) (dCmp fun i j => decide (i ≤ j)) (mVar 1) (mVar 0) (mVar 2)))
def f_is_from : MF := runF 3 t_is_from
def t_is_below : MS := mRet (mCall 3 0 [0, 1, 2] 3 f_is_from (mCons (mVar 0) (mCons (mC (.int 0)) (mCons (mOp dSub (mVar 1) (mC (.int 1))) (mNil)))) (mNil))
def f_is_below : MF := runF 2 t_is_below
def t_is_value : MS := mRet (mCall 2 0 [0, 1] 2 f_is_below (mCons (mVar 1) (mCons (mVar 0) (mNil))) (mNil))
def f_is_value : MF := runF 2 t_is_value
def t_check_number : MS := mIfS (mNotT (mTest (mCall 3 0 [0, 1, 2] 3 f_is_from (mCons (mVar 0) (mCons (mVar 1) (mCons (mVar 2) (mNil)))) (mNil)))) (mRaise ("InvalidNumber" : Str) ("given" : Str) (mVar 0)) (mNext)
def f_check_number : MF := runF 3 t_check_number
def t_check_modulus : MS := mIfS (mOrT (mNotT (mTest (mCall 3 0 [0, 1, 2] 3 f_is_from (mCons (mVar 0) (mCons (mOp dIx (mC (.tup [(.int 2), (.int 3), (.int 5), (.int 7)])) (mC (.int 0))) (mCons (mOp dIx (mC (.tup [(.int 2), (.int 3), (.int 5), (.int 7)])) (mUn dNeg (mC (.int 1)))) (mNil)))) (mNil)))) (mTest (mOp (dIn true) (mVar 0) (mC (.tup [(.int 2), (.int 3), (.int 5), (.int 7)]))))) (mRaise ("InvalidNumber" : Str) ("given" : Str) (mVar 0)) (mNext)
def f_check_modulus : MF := runF 1 t_check_modulus
def t_wrong_in_values : MS := mRet (mLamC 3 [3, 4] (mCall 2 0 [0, 1] 2 f_is_value (mCons (mVar 0) (mCons (mVar 4) (mNil))) (mNil)) f_wrong_at (mCons (mVar 2) (mCons (mC (.int 0)) (mCons (mVar 1) (mNil)))))
def f_wrong_in_values : MF := runF 5 t_wrong_in_values
def t_check_row : MS := mFor (mItems (mCall 3 0 [0, 1, 2] 3 f_wrong_in_values (mCons (mVar 0) (mCons (mC (.int 60)) (mCons (mVar 1) (mNil)))) (mNil))) (mgName 2) (mRaise ("InvalidRow" : Str) ("index" : Str) (mVar 2))
def f_check_row : MF := runF 3 t_check_row
def t_check_rule_of : MS := mFor (mItems (mCall 3 0 [0, 1, 2] 3 f_wrong_in_values (mCons (mVar 0) (mCons (mVar 2) (mCons (mVar 1) (mNil)))) (mNil))) (mgName 3) (mRaise ("InvalidRule" : Str) ("index" : Str) (mVar 3))
def f_check_rule_of : MF := runF 4 t_check_rule_of
def t_check_rule : MS := mDrop (mCall 3 0 [0, 1, 2] 3 f_check_rule_of (mCons (mVar 0) (mCons (mVar 1) (mCons (mC (.int 60)) (mNil)))) (mNil))
def f_check_rule : MF := runF 2 t_check_rule
def t_check_short_rule : MS := mDrop (mCall 3 0 [0, 1, 2] 3 f_check_rule_of (mCons (mVar 0) (mCons (mVar 1) (mCons (mC (.int 10)) (mNil)))) (mNil))
def f_check_short_rule : MF := runF 2 t_check_short_rule
def t_trimmed : MS := mSeq (mSet 1 (mCB dLen (mCons (mVar 0) (mNil)))) (mSeq (whileS (mAndT (mTest (mOp (dCmp fun i j => decide (j < i)) (mVar 1) (mC (.int 0)))) (mTest (mOp dEq (mOp dIx (mVar 0) (mOp dSub (mVar 1) (mC (.int 1)))) (mC (.int 0))))) (mSet 1 (mOp dSub (mVar 1) (mC (.int 1)))) 100000) (mRet (mCB dTuple (mCons (mSl dSl (mVar 0) (mC none) (mPart (mVar 1))) (mNil)))))
def f_trimmed : MF := runF 2 t_trimmed
def t_times_by : MS := mSeq (mSetOwn 3 (mLcN [4] (mRng1 (mCons (mOp dAdd (mCB dLen (mCons (mVar 1) (mNil))) (mCB dLen (mCons (mVar 2) (mNil)))) (mNil))) (mgName 4) (mC true) (mC (.int 0)))) (mSeq (mFor (mEnum (mCons (mVar 1) (mNil))) (mgTup 2 (mgCons (mgName 5) (mgCons (mgName 6) (mgNil)))) (mFor (mEnum (mCons (mVar 2) (mNil))) (mgTup 2 (mgCons (mgName 7) (mgCons (mgName 8) (mgNil)))) (mAsg (mOp dMod (mOp dAdd (mOp dIx (mOwn 3) (mOp dAdd (mVar 5) (mVar 7))) (mOp dMul (mVar 6) (mVar 8))) (mVar 0)) (mgSubOwn 3 (mOp dAdd (mVar 5) (mVar 7)))))) (mSeq (mFreeze 3) (mRet (mCall 1 0 [0] 1 f_trimmed (mCons (mVar 3) (mNil)) (mNil)))))
def f_times_by : MF := runF 9 t_times_by
def t_inverse_of : MS := mSeq (mSet 2 (mC (.int 1))) (mSeq (mFor (mRng1 (mCons (mOp dSub (mVar 0) (mC (.int 2))) (mNil))) (mgName 3) (mSet 2 (mOp dMod (mOp dMul (mVar 2) (mVar 1)) (mVar 0)))) (mRet (mVar 2)))
def f_inverse_of : MF := runF 4 t_inverse_of
def t_divided_by : MS := mSeq (mParM 3 4 (mMOwn (mNewOf (mVar 1)) (mMOwn (mLcN [5] (mRng1 (mCons (mCB dLen (mCons (mVar 1) (mNil))) (mNil))) (mgName 5) (mC true) (mC (.int 0))) (mMNil)))) (mSeq (mSet 6 (mCall 2 0 [0, 1] 2 f_inverse_of (mCons (mVar 0) (mCons (mOp dIx (mVar 2) (mUn dNeg (mC (.int 1)))) (mNil))) (mNil))) (mSeq (mFor (mItems (mLsV (mNewRev (mLsV (mNewRg1 (mOp dAdd (mOp dSub (mCB dLen (mCons (mVar 1) (mNil))) (mCB dLen (mCons (mVar 2) (mNil)))) (mC (.int 1)))))))) (mgName 7) (mSeq (mSet 8 (mOp dMod (mOp dMul (mOp dIx (mOwn 3) (mOp dSub (mOp dAdd (mVar 7) (mCB dLen (mCons (mVar 2) (mNil)))) (mC (.int 1)))) (mVar 6)) (mVar 0))) (mSeq (mAsg (mVar 8) (mgSubOwn 4 (mVar 7))) (mFor (mEnum (mCons (mVar 2) (mNil))) (mgTup 2 (mgCons (mgName 9) (mgCons (mgName 10) (mgNil)))) (mAsg (mOp dMod (mOp dSub (mOp dIx (mOwn 3) (mOp dAdd (mVar 7) (mVar 9))) (mOp dMul (mVar 8) (mVar 10))) (mVar 0)) (mgSubOwn 3 (mOp dAdd (mVar 7) (mVar 9)))))))) (mSeq (mFreeze 4) (mSeq (mFreeze 3) (mRet (mTup (mCons (mCall 1 0 [0] 1 f_trimmed (mCons (mVar 4) (mNil)) (mNil)) (mCons (mCall 1 0 [0] 1 f_trimmed (mCons (mVar 3) (mNil)) (mNil)) (mNil)))))))))
def f_divided_by : MF := runF 11 t_divided_by
def t_times_rest : MS := mRet (mOp dIx (mCall 3 0 [0, 1, 2] 3 f_divided_by (mCons (mVar 0) (mCons (mCall 3 0 [0, 1, 2] 3 f_times_by (mCons (mVar 0) (mCons (mVar 1) (mCons (mVar 2) (mNil)))) (mNil)) (mCons (mVar 3) (mNil)))) (mNil)) (mC (.int 1)))
def f_times_rest : MF := runF 4 t_times_rest
def t_rest_power : MS := mSeq (mPar 4 5 (mCons (mOp dIx (mCall 3 0 [0, 1, 2] 3 f_divided_by (mCons (mVar 0) (mCons (mTup (mCons (mC (.int 1)) (mNil))) (mCons (mVar 3) (mNil)))) (mNil)) (mC (.int 1))) (mCons (mOp dIx (mCall 3 0 [0, 1, 2] 3 f_divided_by (mCons (mVar 0) (mCons (mVar 1) (mCons (mVar 3) (mNil)))) (mNil)) (mC (.int 1))) (mNil)))) (mSeq (whileS (mTest (mOp (dCmp fun i j => decide (j < i)) (mVar 2) (mC (.int 0)))) (mSeq (mIfS (mTest (mOp dEq (mOp dMod (mVar 2) (mC (.int 2))) (mC (.int 1)))) (mSet 4 (mCall 4 0 [0, 1, 2, 3] 4 f_times_rest (mCons (mVar 0) (mCons (mVar 4) (mCons (mVar 5) (mCons (mVar 3) (mNil))))) (mNil))) (mNext)) (mPar 5 2 (mCons (mCall 4 0 [0, 1, 2, 3] 4 f_times_rest (mCons (mVar 0) (mCons (mVar 5) (mCons (mVar 5) (mCons (mVar 3) (mNil))))) (mNil)) (mCons (mOp dDiv (mVar 2) (mC (.int 2))) (mNil))))) 100000) (mRet (mVar 4)))
def f_rest_power : MF := runF 6 t_rest_power
def t_polynomial_by : MS := mRet (mTup (mStar (mLsV (mLcN [2] (mItems (mVar 1)) (mgName 2) (mC true) (mOp dMod (mOp dSub (mC (.int 0)) (mVar 2)) (mVar 0)))) (mCons (mC (.int 1)) (mNil))))
def f_polynomial_by : MF := runF 3 t_polynomial_by
def t_next_by : MS := mRet (mOp dMod (mCB dSum (mCons (mLsV (mLcN [3, 4] (mZip (mCons (mVar 1) (mCons (mVar 2) (mNil)))) (mgTup 2 (mgN2 3 4)) (mC true) (mOp dMul (mVar 3) (mVar 4)))) (mNil))) (mVar 0))
def f_next_by : MF := runF 5 t_next_by
def t_broken_by : MS := mSeq (mSet 3 (mCB dLen (mCons (mVar 2) (mNil)))) (mRet (mLsV (mLcN [4] (mRng2 (mCons (mVar 3) (mCons (mCB dLen (mCons (mVar 1) (mNil))) (mNil)))) (mgName 4) (mTest (mOp dNe (mOp dIx (mVar 1) (mVar 4)) (mCall 3 0 [0, 1, 2] 3 f_next_by (mCons (mVar 0) (mCons (mVar 2) (mCons (mSl dSl (mVar 1) (mPart (mOp dSub (mVar 4) (mVar 3))) (mPart (mVar 4))) (mNil)))) (mNil)))) (mVar 4))))
def f_broken_by : MF := runF 5 t_broken_by
def t_keeps_by : MS := mRet (mOp dEq (mCall 3 0 [0, 1, 2] 3 f_broken_by (mCons (mVar 0) (mCons (mVar 1) (mCons (mVar 2) (mNil)))) (mNil)) (mLsV (mNewL (mNil))))
def f_keeps_by : MF := runF 3 t_keeps_by
def t_gone_by : MS := mSeq (mSetOwn 4 (mNewOf (mVar 1))) (mSeq (mFor (mRng1 (mCons (mVar 3) (mNil))) (mgName 5) (mAppOwn 4 (mCall 3 0 [0, 1, 2] 3 f_next_by (mCons (mVar 0) (mCons (mVar 2) (mCons (mSl dSl (mOwn 4) (mPart (mOp dSub (mCB dLen (mCons (mOwn 4) (mNil))) (mCB dLen (mCons (mVar 2) (mNil))))) (mC none)) (mNil)))) (mNil)))) (mRet (mCB dTuple (mCons (mOwn 4) (mNil)))))
def f_gone_by : MF := runF 6 t_gone_by
def t_row_by : MS := mSeq (mAsg (mVar 0) (mgTup 3 (mgCons (mgName 2) (mgCons (mgName 3) (mgCons (mgName 4) (mgNil)))))) (mRet (mSl dSl (mCall 4 0 [0, 1, 2, 3] 4 f_gone_by (mCons (mVar 2) (mCons (mVar 4) (mCons (mVar 3) (mCons (mCB (d2I fun i j => if j > i then j else i) (mCons (mC (.int 0)) (mCons (mOp dSub (mVar 1) (mCB dLen (mCons (mVar 4) (mNil)))) (mNil)))) (mNil))))) (mNil)) (mC none) (mPart (mVar 1))))
def f_row_by : MF := runF 5 t_row_by
def t_value_with : MS := mSeq (mAsg (mVar 0) (mgTup 3 (mgCons (mgName 2) (mgCons (mgName 3) (mgCons (mgName 4) (mgNil)))))) (mRet (mOp dMod (mCB dSum (mCons (mLsV (mLcN [5, 6] (mZip (mCons (mVar 1) (mCons (mVar 4) (mNil)))) (mgTup 2 (mgN2 5 6)) (mC true) (mOp dMul (mVar 5) (mVar 6)))) (mNil))) (mVar 2)))
def f_value_with : MF := runF 7 t_value_with
def t_rest_at_v2 : MS := mSeq (mAsg (mVar 0) (mgTup 3 (mgCons (mgName 2) (mgCons (mgName 3) (mgCons (mgName 4) (mgNil)))))) (mRet (mCall 4 0 [0, 1, 2, 3] 4 f_rest_power (mCons (mVar 2) (mCons (mC (.tup [(.int 0), (.int 1)])) (mCons (mVar 1) (mCons (mCall 2 0 [0, 1] 2 f_polynomial_by (mCons (mVar 2) (mCons (mVar 3) (mNil))) (mNil)) (mNil))))) (mNil)))
def f_rest_at_v2 : MF := runF 5 t_rest_at_v2
def t_value_by : MS := mRet (mCall 2 0 [0, 1] 2 f_value_with (mCons (mVar 0) (mCons (mCall 2 0 [0, 1] 2 f_rest_at_v2 (mCons (mVar 0) (mCons (mVar 1) (mNil))) (mNil)) (mNil))) (mNil))
def f_value_by : MF := runF 2 t_value_by
def t_state_by : MS := mSeq (mAsg (mVar 0) (mgTup 3 (mgCons (mgName 2) (mgCons (mgName 3) (mgCons (mgName 4) (mgNil)))))) (mSeq (mParM3 5 6 7 (mMVal (mCall 2 0 [0, 1] 2 f_polynomial_by (mCons (mVar 2) (mCons (mVar 3) (mNil))) (mNil)) (mMVal (mCall 2 0 [0, 1] 2 f_rest_at_v2 (mCons (mVar 0) (mCons (mVar 1) (mNil))) (mNil)) (mMOwn (mNewL (mNil)) (mMNil))))) (mSeq (mFor (mItems (mVar 4)) (mgName 8) (mSeq (mAppOwn 7 (mCall 2 0 [0, 1] 2 f_value_with (mCons (mVar 0) (mCons (mVar 6) (mNil))) (mNil))) (mSet 6 (mCall 4 0 [0, 1, 2, 3] 4 f_times_rest (mCons (mVar 2) (mCons (mVar 6) (mCons (mC (.tup [(.int 0), (.int 1)])) (mCons (mVar 5) (mNil))))) (mNil))))) (mRet (mCB dTuple (mCons (mOwn 7) (mNil))))))
def f_state_by : MF := runF 9 t_state_by
def t_check_start : MS := mFor (mItems (mLamC 3 [4, 5] (mCall 2 0 [0, 1] 2 f_is_value (mCons (mVar 0) (mCons (mVar 5) (mNil))) (mNil)) f_wrong_at (mCons (mVar 2) (mCons (mVar 1) (mCons (mVar 1) (mNil)))))) (mgName 3) (mRaise ("InvalidStart" : Str) ("index" : Str) (mVar 3))
def f_check_start : MF := runF 6 t_check_start
def t_Register___init__ : MS := mSeq (mDrop (mCall 1 0 [0] 1 f_check_modulus (mCons (mVar 1) (mNil)) (mNil))) (mSeq (mDrop (mCall 2 0 [0, 1] 2 f_check_short_rule (mCons (mVar 1) (mCons (mVar 2) (mNil))) (mNil))) (mSeq (mDrop (mCall 3 0 [0, 1, 2] 3 f_check_start (mCons (mVar 1) (mCons (mCB dLen (mCons (mVar 2) (mNil))) (mCons (mVar 3) (mNil)))) (mNil))) (mSetFld [("Register" : Str)] ("three" : Str) (mVar 0) (mTup (mCons (mVar 1) (mCons (mVar 2) (mCons (mVar 3) (mNil))))))))
def f_Register___init__ : MF := runF 4 t_Register___init__
def t_Register_modulus : MS := mRet (mOp dIx (mFld [("Register" : Str)] ("three" : Str) (mVar 0)) (mC (.int 0)))
def f_Register_modulus : MF := runF 1 t_Register_modulus
def t_Register_rule : MS := mRet (mOp dIx (mFld [("Register" : Str)] ("three" : Str) (mVar 0)) (mC (.int 1)))
def f_Register_rule : MF := runF 1 t_Register_rule
def t_Register_start : MS := mRet (mOp dIx (mFld [("Register" : Str)] ("three" : Str) (mVar 0)) (mC (.int 2)))
def f_Register_start : MF := runF 1 t_Register_start
def t_Register_parts : MS := mRet (mFld [("Register" : Str)] ("three" : Str) (mVar 0))
def f_Register_parts : MF := runF 1 t_Register_parts
def t_Register___eq__ : MS := mRet (mAnd (mUn (dIsO [("Register" : Str)] ("Register" : Str)) (mVar 1)) (mOp dEq (mProp ("Register" : Str) f_Register_parts (mVar 0)) (mProp ("Register" : Str) f_Register_parts (mVar 1))))
def f_Register___eq__ : MF := runF 2 t_Register___eq__
def t_check_register : MS := mIfS (mNotT (mTest (mUn (dIsO [("Register" : Str)] ("Register" : Str)) (mVar 0)))) (mRaise ("NotARegister" : Str) ("given" : Str) (mVar 0)) (mNext)
def f_check_register : MF := runF 1 t_check_register
def t_row_of : MS := mSeq (mDrop (mCall 1 0 [0] 1 f_check_register (mCons (mVar 0) (mNil)) (mNil))) (mSeq (mDrop (mCall 3 0 [0, 1, 2] 3 f_check_number (mCons (mVar 1) (mCons (mC (.int 0)) (mCons (mC (.int 60)) (mNil)))) (mNil))) (mRet (mCall 2 0 [0, 1] 2 f_row_by (mCons (mProp ("Register" : Str) f_Register_parts (mVar 0)) (mCons (mVar 1) (mNil))) (mNil))))
def f_row_of : MF := runF 2 t_row_of
def t_value_at : MS := mSeq (mDrop (mCall 1 0 [0] 1 f_check_register (mCons (mVar 0) (mNil)) (mNil))) (mSeq (mDrop (mCall 3 0 [0, 1, 2] 3 f_check_number (mCons (mVar 1) (mCons (mC (.int 0)) (mCons (mC (.int 1000000000000000000)) (mNil)))) (mNil))) (mRet (mCall 2 0 [0, 1] 2 f_value_by (mCons (mProp ("Register" : Str) f_Register_parts (mVar 0)) (mCons (mVar 1) (mNil))) (mNil))))
def f_value_at : MF := runF 2 t_value_at
def t_state_at : MS := mSeq (mDrop (mCall 1 0 [0] 1 f_check_register (mCons (mVar 0) (mNil)) (mNil))) (mSeq (mDrop (mCall 3 0 [0, 1, 2] 3 f_check_number (mCons (mVar 1) (mCons (mC (.int 0)) (mCons (mC (.int 1000000000000000000)) (mNil)))) (mNil))) (mRet (mCall 2 0 [0, 1] 2 f_state_by (mCons (mProp ("Register" : Str) f_Register_parts (mVar 0)) (mCons (mVar 1) (mNil))) (mNil))))
def f_state_at : MF := runF 2 t_state_at
def t_check_told : MS := mSeq (mDrop (mCall 1 0 [0] 1 f_check_modulus (mCons (mVar 0) (mNil)) (mNil))) (mSeq (mDrop (mCall 2 0 [0, 1] 2 f_check_row (mCons (mVar 0) (mCons (mVar 1) (mNil))) (mNil))) (mDrop (mCall 2 0 [0, 1] 2 f_check_rule (mCons (mVar 0) (mCons (mVar 2) (mNil))) (mNil))))
def f_check_told : MF := runF 3 t_check_told
def t_keeps : MS := mSeq (mDrop (mCall 3 0 [0, 1, 2] 3 f_check_told (mCons (mVar 0) (mCons (mVar 1) (mCons (mVar 2) (mNil)))) (mNil))) (mRet (mCall 3 0 [0, 1, 2] 3 f_keeps_by (mCons (mVar 0) (mCons (mVar 1) (mCons (mVar 2) (mNil)))) (mNil)))
def f_keeps : MF := runF 3 t_keeps
def t_gone_on : MS := mSeq (mDrop (mCall 3 0 [0, 1, 2] 3 f_check_told (mCons (mVar 0) (mCons (mVar 1) (mCons (mVar 2) (mNil)))) (mNil))) (mSeq (mDrop (mCall 3 0 [0, 1, 2] 3 f_check_number (mCons (mVar 3) (mCons (mC (.int 0)) (mCons (mC (.int 60)) (mNil)))) (mNil))) (mSeq (mIfS (mOrT (mTest (mOp (dCmp fun i j => decide (i < j)) (mCB dLen (mCons (mVar 1) (mNil))) (mCB dLen (mCons (mVar 2) (mNil))))) (mTest (mOp (dCmp fun i j => decide (j < i)) (mOp dAdd (mCB dLen (mCons (mVar 1) (mNil))) (mVar 3)) (mC (.int 60))))) (mRaise0 ("Over" : Str)) (mNext)) (mRet (mCall 4 0 [0, 1, 2, 3] 4 f_gone_by (mCons (mVar 0) (mCons (mVar 1) (mCons (mVar 2) (mCons (mVar 3) (mNil))))) (mNil)))))
def f_gone_on : MF := runF 4 t_gone_on
def t_L_bowl : MS := mSeq (mPar 2 3 (mCons (mIf (mTest (mOp (dCmp fun i j => decide (i < j)) (mVar 1) (mCB dLen (mCons (mVar 0) (mNil))))) (mCB dInt (mCons (mOp dIx (mVar 0) (mVar 1)) (mNil))) (mC (.int 0))) (mCons (mOp dAdd (mC (.int 880069)) (mOp dMul (mC (.int 3109)) (mVar 1))) (mNil)))) (mSeq (mFor (mItems (mSl dSl (mVar 0) (mC none) (mPart (mC (.int 16))))) (mgName 4) (mSet 3 (mOp dMod (mCB dInt (mCons (mOp dAdd (mOp dAdd (mOp dMul (mVar 3) (mC (.int 48611))) (mOp dMul (mOp dMod (mCB dInt (mCons (mVar 4) (mNil))) (mC (.int 2147483353))) (mC (.int 3)))) (mC (.int 71))) (mNil))) (mC (.int 2147483423))))) (mSeq (mSet 5 (mIf (mOrT (mTest (mOp (dCmp fun i j => decide (i < j)) (mVar 2) (mC (.int 0)))) (mTest (mOp (dCmp fun i j => decide (j ≤ i)) (mVar 2) (mOp dPow (mC (.int 10)) (mC (.int 16)))))) (mOp dMod (mCB dAbs (mCons (mVar 2) (mNil))) (mOp dPow (mC (.int 10)) (mC (.int 60)))) (mC (.int 0)))) (mRet (mCellN (mNewL (mCons (mVar 5) (mCons (mOp dMod (mCB dInt (mCons (mOp dAdd (mOp dAdd (mOp dMul (mVar 3) (mC (.int 31))) (mOp dMod (mCB dInt (mCons (mVar 2) (mNil))) (mC (.int 2147483353)))) (mC (.int 401))) (mNil))) (mC (.int 2147483423))) (mNil))))))))
def f_L_bowl : MF := runF 6 t_L_bowl
def t_L_draw : MS := mSeq (mIfS (mTest (mOp (dCmp fun i j => decide (j < i)) (mOp dIx (mVar 0) (mC (.int 0))) (mC (.int 0)))) (mSeq (mAsg (mCB dDivmod (mCons (mOp dIx (mVar 0) (mC (.int 0))) (mCons (mVar 1) (mNil)))) (mgTup 2 (mgCons (mgSubRef (mVar 0) (mC (.int 0))) (mgCons (mgName 2) (mgNil))))) (mRet (mVar 2))) (mNext)) (mSeq (mAsg (mOp dMod (mCB dInt (mCons (mOp dAdd (mOp dMul (mOp dIx (mVar 0) (mC (.int 1))) (mC (.int 36969))) (mC (.int 19))) (mNil))) (mC (.int 2147483423))) (mgSubRef (mVar 0) (mC (.int 1)))) (mSeq (mAsg (mOp dMod (mCB dInt (mCons (mOp dAdd (mOp dMul (mOp dIx (mVar 0) (mC (.int 1))) (mC (.int 18000))) (mOp dDiv (mOp dIx (mVar 0) (mC (.int 1))) (mC (.int 6263)))) (mNil))) (mC (.int 2147483423))) (mgSubRef (mVar 0) (mC (.int 1)))) (mRet (mOp dMod (mCB dInt (mCons (mOp dDiv (mOp dIx (mVar 0) (mC (.int 1))) (mC (.int 907))) (mNil))) (mVar 1)))))
def f_L_draw : MF := runF 3 t_L_draw
def t_L_of : MS := mRet (mOp dIx (mVar 1) (mCall 2 0 [0, 1] 2 f_L_draw (mCons (mVar 0) (mCons (mCB dLen (mCons (mVar 1) (mNil))) (mNil))) (mNil)))
def f_L_of : MF := runF 2 t_L_of
def t_L_same (m0 : MF) : MS := mSeq (mIfS (mOrT (mTest (mUn (dIsi "tuple") (mVar 1))) (mTest (mUn (dIsi "tuple") (mVar 0)))) (mSeq (mIfS (mOrT (mNotT (mTest (mUn (dIsi "tuple") (mVar 1)))) (mOrT (mNotT (mTest (mUn (dIsi "tuple") (mVar 0)))) (mTest (mOp dNe (mCB dLen (mCons (mVar 0) (mNil))) (mCB dLen (mCons (mVar 1) (mNil))))))) (mRet (mC (.bl false))) (mNext)) (mRet (mOp dEq (mLsV (mLcN [2] (mRng1 (mCons (mCB dLen (mCons (mVar 1) (mNil))) (mNil))) (mgName 2) (mNotT (mTest (mCall 2 0 [0, 1] 2 m0 (mCons (mOp dIx (mVar 0) (mVar 2)) (mCons (mOp dIx (mVar 1) (mVar 2)) (mNil))) (mNil)))) (mVar 2))) (mLsV (mNewL (mNil)))))) (mNext)) (mSeq (mIfS (mOrT (mTest (mOp dIs (mVar 1) (mC .non))) (mTest (mOp dIs (mVar 0) (mC .non)))) (mRet (mAnd (mOp dIs (mVar 1) (mC .non)) (mOp dIs (mVar 0) (mC .non)))) (mNext)) (mSeq (mIfS (mOrT (mTest (mOp dNe (mUn (dIsi "bool") (mVar 1)) (mUn (dIsi "bool") (mVar 0)))) (mOrT (mTest (mOp dNe (mUn (dIsi "int") (mVar 1)) (mUn (dIsi "int") (mVar 0)))) (mTest (mOp dNe (mUn (dIsi "str") (mVar 1)) (mUn (dIsi "str") (mVar 0)))))) (mRet (mC (.bl false))) (mNext)) (mRet (mOp dIs (mOp dEq (mVar 0) (mVar 1)) (mC (.bl true))))))
def f_L_same : Nat → MF
  | 0 => fun _ _ => .stuck
  | n + 1 => runF 3 (t_L_same (f_L_same n))
def t_L_rule : MS := mSeq (mSet 3 (mCall 2 0 [0, 1] 2 f_L_draw (mCons (mVar 0) (mCons (mOp dAdd (mVar 2) (mC (.int 1))) (mNil))) (mNil))) (mSeq (mSet 4 (mCall 2 0 [0, 1] 2 f_L_draw (mCons (mVar 0) (mCons (mC (.int 5)) (mNil))) (mNil))) (mSeq (mIfS (mTest (mOp dEq (mVar 4) (mC (.int 4)))) (mSeq (mSet 5 (mCall 2 0 [0, 1] 2 f_L_draw (mCons (mVar 0) (mCons (mOp dAdd (mVar 3) (mC (.int 1))) (mNil))) (mNil))) (mRet (mOp dAdd (mOp dMul (mTup (mCons (mC (.int 0)) (mNil))) (mVar 5)) (mCB dTuple (mCons (mLsV (mLcN [6] (mRng1 (mCons (mOp dSub (mVar 3) (mVar 5)) (mNil))) (mgName 6) (mC true) (mOp dAdd (mC (.int 1)) (mCall 2 0 [0, 1] 2 f_L_draw (mCons (mVar 0) (mCons (mOp dSub (mVar 1) (mC (.int 1))) (mNil))) (mNil))))) (mNil)))))) (mNext)) (mSeq (mIfS (mTest (mOp dEq (mVar 4) (mC (.int 0)))) (mRet (mCB dTuple (mCons (mLsV (mLcN [6] (mRng1 (mCons (mVar 3) (mNil))) (mgName 6) (mC true) (mCall 2 0 [0, 1] 2 f_L_of (mCons (mVar 0) (mCons (mTup (mCons (mC (.int 0)) (mCons (mC (.int 0)) (mCons (mC (.int 1)) (mCons (mOp dSub (mVar 1) (mC (.int 1))) (mNil)))))) (mNil))) (mNil)))) (mNil)))) (mNext)) (mSeq (mIfS (mTest (mOp dEq (mVar 4) (mC (.int 1)))) (mRet (mOp dMul (mTup (mCons (mCall 2 0 [0, 1] 2 f_L_draw (mCons (mVar 0) (mCons (mVar 1) (mNil))) (mNil)) (mNil))) (mVar 3))) (mNext)) (mRet (mCB dTuple (mCons (mLsV (mLcN [6] (mRng1 (mCons (mVar 3) (mNil))) (mgName 6) (mC true) (mCall 2 0 [0, 1] 2 f_L_draw (mCons (mVar 0) (mCons (mVar 1) (mNil))) (mNil)))) (mNil))))))))
def f_L_rule : MF := runF 7 t_L_rule
def t_L_go : MS := mSeq (mSetOwn 4 (mNewOf (mVar 1))) (mSeq (mFor (mRng1 (mCons (mVar 3) (mNil))) (mgName 5) (mSeq (mSet 6 (mSl dSl (mOwn 4) (mPart (mOp dSub (mCB dLen (mCons (mOwn 4) (mNil))) (mCB dLen (mCons (mVar 2) (mNil))))) (mC none))) (mAppOwn 4 (mOp dMod (mCB dInt (mCons (mCB dSum (mCons (mLsV (mLcN [7, 8] (mZip (mCons (mVar 2) (mCons (mVar 6) (mNil)))) (mgTup 2 (mgN2 7 8)) (mC true) (mOp dMul (mVar 7) (mVar 8)))) (mNil))) (mNil))) (mVar 0))))) (mRet (mCB dTuple (mCons (mOwn 4) (mNil)))))
def f_L_go : MF := runF 9 t_L_go
def t_L_register : MS := mSeq (mSet 3 (mCall 3 0 [0, 1, 2] 3 f_L_rule (mCons (mVar 0) (mCons (mVar 1) (mCons (mVar 2) (mNil)))) (mNil))) (mSeq (mSet 4 (mIf (mTest (mOp (dCmp fun i j => decide (j < i)) (mCall 2 0 [0, 1] 2 f_L_draw (mCons (mVar 0) (mCons (mC (.int 5)) (mNil))) (mNil)) (mC (.int 0)))) (mCB dTuple (mCons (mLsV (mLcN [5] (mRng1 (mCons (mCB dLen (mCons (mVar 3) (mNil))) (mNil))) (mgName 5) (mC true) (mCall 2 0 [0, 1] 2 f_L_draw (mCons (mVar 0) (mCons (mVar 1) (mNil))) (mNil)))) (mNil))) (mOp dAdd (mOp dMul (mTup (mCons (mC (.int 0)) (mNil))) (mCB (d2I fun i j => if j > i then j else i) (mCons (mC (.int 0)) (mCons (mOp dSub (mCB dLen (mCons (mVar 3) (mNil))) (mC (.int 1))) (mNil))))) (mOp dMul (mTup (mCons (mC (.int 1)) (mNil))) (mCB (d2I fun i j => if j < i then j else i) (mCons (mC (.int 1)) (mCons (mCB dLen (mCons (mVar 3) (mNil))) (mNil)))))))) (mRet (mTup (mCons (mVar 1) (mCons (mVar 3) (mCons (mVar 4) (mNil)))))))
def f_L_register : MF := runF 6 t_L_register
def t_L_first : MS := mRet (mSl dSl (mCall 4 0 [0, 1, 2, 3] 4 f_L_go (mCons (mOp dIx (mVar 0) (mC (.int 0))) (mCons (mOp dIx (mVar 0) (mC (.int 2))) (mCons (mOp dIx (mVar 0) (mC (.int 1))) (mCons (mCB (d2I fun i j => if j > i then j else i) (mCons (mC (.int 0)) (mCons (mOp dSub (mVar 1) (mCB dLen (mCons (mOp dIx (mVar 0) (mC (.int 2))) (mNil)))) (mNil)))) (mNil))))) (mNil)) (mC none) (mPart (mVar 1)))
def f_L_first : MF := runF 2 t_L_first
noncomputable def t_L_made : MS := mRet (mMake ("Register" : Str) 3 0 [0, 1, 2, 3] 4 f_Register___init__ (mCons (mOp dIx (mVar 0) (mC (.int 0))) (mCons (mOp dIx (mVar 0) (mC (.int 1))) (mCons (mOp dIx (mVar 0) (mC (.int 2))) (mNil)))) (mNil))
noncomputable def f_L_made : MF := runF 1 t_L_made
def t_L_odd_modulus : MS := mRet (mCall 2 0 [0, 1] 2 f_L_of (mCons (mVar 0) (mCons (mTup (mCons (mC .non) (mCons (mC (.int 4)) (mCons (mC (.int 0)) (mCons (mC (.int 1)) (mCons (mC (.int 11)) (mCons (mC (.int 6)) (mCons (mC (.bl true)) (mCons (mC (.str ("2" : Str))) (mCons (mTup (mCons (mC (.int 2)) (mNil))) (mCons (mLsV (mNewL (mCons (mC (.int 3)) (mNil)))) (mCons (mOp dSub (mC (.int 0)) (mC (.int 2))) (mCons (mC (.int 9)) (mCons (mC .emp) (mNil))))))))))))))) (mNil))) (mNil))
def f_L_odd_modulus : MF := runF 1 t_L_odd_modulus
def t_L_odd_values : MS := mSeq (mSet 4 (mCall 2 0 [0, 1] 2 f_L_draw (mCons (mVar 0) (mCons (mOp dAdd (mCB dLen (mCons (mVar 2) (mNil))) (mC (.int 1))) (mNil))) (mNil))) (mSeq (mSet 5 (mCall 2 0 [0, 1] 2 f_L_of (mCons (mVar 0) (mCons (mTup (mCons (mC .non) (mCons (mVar 1) (mCons (mOp dSub (mC (.int 0)) (mC (.int 1))) (mCons (mC (.bl true)) (mCons (mC (.str ("1" : Str))) (mCons (mTup (mCons (mC (.int 1)) (mNil))) (mCons (mLsV (mNewL (mCons (mC (.int 0)) (mNil)))) (mCons (mOp dAdd (mVar 1) (mC (.int 1))) (mCons (mC (.bl false)) (mNil))))))))))) (mNil))) (mNil))) (mSeq (mSet 6 (mLsV (mNewL (mCons (mTup (mCons (mC .non) (mCons (mC .non) (mNil)))) (mCons (mTup (mCons (mC (.int 3)) (mCons (mC .non) (mNil)))) (mCons (mTup (mCons (mLsV (mNewOf (mVar 2))) (mCons (mC .non) (mNil)))) (mCons (mTup (mCons (mC (.str ("row" : Str))) (mCons (mC .non) (mNil)))) (mCons (mTup (mCons (mC .emp) (mCons (mC .non) (mNil)))) (mCons (mTup (mCons (mC (.bl true)) (mCons (mC .non) (mNil)))) (mCons (mTup (mCons (mOp dAdd (mOp dMul (mTup (mCons (mC (.int 0)) (mNil))) (mVar 3)) (mTup (mCons (mC (.int 0)) (mNil)))) (mCons (mVar 3) (mNil)))) (mCons (mTup (mCons (mOp dAdd (mOp dMul (mTup (mCons (mC (.int 1)) (mNil))) (mVar 3)) (mTup (mCons (mC .non) (mCons (mC (.int 1)) (mNil))))) (mCons (mVar 3) (mNil)))) (mNil)))))))))))) (mRet (mCall 2 0 [0, 1] 2 f_L_of (mCons (mVar 0) (mCons (mLsV (mNewAdd (mVar 6) (mLsV (mNewMul (mLsV (mNewL (mCons (mTup (mCons (mOp dAdd (mOp dAdd (mOp dAdd (mSl dSl (mVar 2) (mC none) (mPart (mVar 4))) (mTup (mCons (mVar 5) (mNil)))) (mSl dSl (mVar 2) (mPart (mVar 4)) (mC none))) (mTup (mCons (mC (.int 0)) (mNil)))) (mCons (mVar 4) (mNil)))) (mCons (mTup (mCons (mOp dAdd (mOp dAdd (mSl dSl (mVar 2) (mC none) (mPart (mVar 4))) (mTup (mCons (mVar 5) (mNil)))) (mSl dSl (mVar 2) (mPart (mOp dAdd (mVar 4) (mC (.int 1)))) (mC none))) (mCons (mVar 4) (mNil)))) (mNil))))) (mC (.int 4)))))) (mNil))) (mNil)))))
def f_L_odd_values : MF := runF 7 t_L_odd_values
def vX_L_kept_v3 (c : Str) (p : Pay) : Option D := match p with
  | some (f, d) => if c = ("InvalidNumber" : Str) ∧ f = ("given" : Str) then some (.tup [.str ("number" : Str), d]) else if c = ("NotARegister" : Str) ∧ f = ("given" : Str) then some (.tup [.str ("notaregister" : Str), d]) else if c = ("InvalidRule" : Str) ∧ f = ("index" : Str) then some (.tup [.str ("rule" : Str), d]) else if c = ("InvalidStart" : Str) ∧ f = ("index" : Str) then some (.tup [.str ("start" : Str), d]) else none
  | none => none
def f_L_kept_v3 (act : MF) : MF := fun _ S => match act [] S with
  | .ok _ S1 => .ok (.tup [.str ("none" : Str), .non]) S1
  | .exn c p S1 => (match vX_L_kept_v3 c p with
    | some d => .ok d S1
    | none => .stuck)
  | .stuck => .stuck
noncomputable def t_L_register_right : MS := mSeq (mAsg (mVar 1) (mgTup 3 (mgCons (mgName 2) (mgCons (mgName 3) (mgCons (mgName 4) (mgNil)))))) (mSeq (mPar 5 6 (mCons (mCall 1 0 [0] 1 f_L_made (mCons (mVar 1) (mNil)) (mNil)) (mCons (mMake ("Register" : Str) 0 (List.length [("start" : Str), ("rule" : Str), ("modulus" : Str)]) [0, 3, 2, 1] 4 f_Register___init__ (mNil) (mCons (mVar 4) (mCons (mVar 3) (mCons (mVar 2) (mNil))))) (mNil)))) (mSeq (mSet 7 (mCall 3 0 [0, 1, 2] 3 f_L_register (mCons (mVar 0) (mCons (mVar 2) (mCons (mC (.int 10)) (mNil)))) (mNil))) (mSeq (mSet 8 (mTup (mCons (mProp ("Register" : Str) f_Register_modulus (mVar 5)) (mCons (mProp ("Register" : Str) f_Register_rule (mVar 5)) (mCons (mProp ("Register" : Str) f_Register_start (mVar 5)) (mCons (mProp ("Register" : Str) f_Register_parts (mVar 5)) (mCons (mCmpO ("Register" : Str) [("Register" : Str)] f_Register___eq__ id (mVar 5) (mVar 6)) (mCons (mCmpO ("Register" : Str) [("Register" : Str)] f_Register___eq__ not (mVar 5) (mVar 6)) (mCons (mCmpO ("Register" : Str) [("Register" : Str)] f_Register___eq__ id (mVar 5) (mVar 1)) (mCons (mCmpO ("Register" : Str) [("Register" : Str)] f_Register___eq__ id (mVar 5) (mCall 1 0 [0] 1 f_L_made (mCons (mVar 7) (mNil)) (mNil))) (mCons (mCmpO ("Register" : Str) [("Register" : Str)] f_Register___eq__ not (mVar 5) (mCall 1 0 [0] 1 f_L_made (mCons (mVar 7) (mNil)) (mNil))) (mNil)))))))))))) (mSeq (mIfS (mNotT (mTest (mCall 2 0 [0, 1] 2 (f_L_same 8) (mCons (mVar 8) (mCons (mTup (mCons (mVar 2) (mCons (mVar 3) (mCons (mVar 4) (mCons (mVar 1) (mCons (mC (.bl true)) (mCons (mC (.bl false)) (mCons (mC (.bl false)) (mCons (mOp dEq (mVar 1) (mVar 7)) (mCons (mOp dNe (mVar 1) (mVar 7)) (mNil))))))))))) (mNil))) (mNil)))) (mRet (mC (.bl false))) (mNext)) (mSeq (mPar 9 10 (mCons (mCall 2 0 [0, 1] 2 f_L_of (mCons (mVar 0) (mCons (mTup (mCons (mC (.int 0)) (mCons (mC (.int 1)) (mCons (mCB dLen (mCons (mVar 3) (mNil))) (mCons (mCall 2 0 [0, 1] 2 f_L_draw (mCons (mVar 0) (mCons (mC (.int 61)) (mNil))) (mNil)) (mCons (mC (.int 60)) (mNil))))))) (mNil))) (mNil)) (mCons (mCall 2 0 [0, 1] 2 f_L_draw (mCons (mVar 0) (mCons (mC (.int 50)) (mNil))) (mNil)) (mNil)))) (mSeq (mSet 11 (mCall 2 0 [0, 1] 2 f_L_first (mCons (mVar 1) (mCons (mC (.int 60)) (mNil))) (mNil))) (mSeq (mSet 8 (mTup (mCons (mCall 2 0 [0, 1] 2 f_row_of (mCons (mVar 5) (mCons (mVar 9) (mNil))) (mNil)) (mCons (mCall 0 (List.length [("many" : Str), ("register" : Str)]) [1, 0] 2 f_row_of (mNil) (mCons (mVar 9) (mCons (mVar 5) (mNil)))) (mCons (mCall 2 0 [0, 1] 2 f_value_at (mCons (mVar 5) (mCons (mVar 10) (mNil))) (mNil)) (mCons (mCall 0 (List.length [("place" : Str), ("register" : Str)]) [1, 0] 2 f_value_at (mNil) (mCons (mVar 10) (mCons (mVar 5) (mNil)))) (mCons (mCall 2 0 [0, 1] 2 f_state_at (mCons (mVar 5) (mCons (mVar 10) (mNil))) (mNil)) (mCons (mCall 0 (List.length [("place" : Str), ("register" : Str)]) [1, 0] 2 f_state_at (mNil) (mCons (mVar 10) (mCons (mVar 5) (mNil)))) (mNil))))))))) (mSeq (mIfS (mNotT (mTest (mCall 2 0 [0, 1] 2 (f_L_same 8) (mCons (mVar 8) (mCons (mTup (mCons (mSl dSl (mVar 11) (mC none) (mPart (mVar 9))) (mCons (mSl dSl (mVar 11) (mC none) (mPart (mVar 9))) (mCons (mOp dIx (mVar 11) (mVar 10)) (mCons (mOp dIx (mVar 11) (mVar 10)) (mCons (mSl dSl (mVar 11) (mPart (mVar 10)) (mPart (mOp dAdd (mVar 10) (mCB dLen (mCons (mVar 3) (mNil)))))) (mCons (mSl dSl (mVar 11) (mPart (mVar 10)) (mPart (mOp dAdd (mVar 10) (mCB dLen (mCons (mVar 3) (mNil)))))) (mNil)))))))) (mNil))) (mNil)))) (mRet (mC (.bl false))) (mNext)) (mRet (mAnd (mOp dIs (mCall 3 0 [0, 1, 2] 3 f_keeps (mCons (mVar 2) (mCons (mCall 2 0 [0, 1] 2 f_row_of (mCons (mVar 5) (mCons (mC (.int 60)) (mNil))) (mNil)) (mCons (mVar 3) (mNil)))) (mNil)) (mC (.bl true))) (mCall 2 0 [0, 1] 2 (f_L_same 8) (mCons (mCall 2 0 [0, 1] 2 f_row_of (mCons (mVar 5) (mCons (mC (.int 60)) (mNil))) (mNil)) (mCons (mCall 4 0 [0, 1, 2, 3] 4 f_gone_on (mCons (mVar 2) (mCons (mVar 4) (mCons (mVar 3) (mCons (mOp dSub (mC (.int 60)) (mCB dLen (mCons (mVar 3) (mNil)))) (mNil))))) (mNil)) (mNil))) (mNil))))))))))))
noncomputable def f_L_register_right : MF := runF 12 t_L_register_right
noncomputable def t_L_right_v4 : MS := mSeq (mFor (mItems (mTup (mCons (mC (.int 2)) (mCons (mC (.int 3)) (mCons (mC (.int 5)) (mCons (mC (.int 7)) (mNil))))))) (mgName 1) (mSeq (mFor (mRng1 (mCons (mC (.int 3)) (mNil))) (mgName 2) (mSeq (mSet 3 (mCall 3 0 [0, 1, 2] 3 f_L_register (mCons (mVar 0) (mCons (mVar 1) (mCons (mC (.int 10)) (mNil)))) (mNil))) (mIfS (mNotT (mTest (mCall 2 0 [0, 1] 2 f_L_register_right (mCons (mVar 0) (mCons (mVar 3) (mNil))) (mNil)))) (mRet (mC (.bl false))) (mNext)))) (mSeq (mAsg (mTup (mCons (mCall 1 0 [0] 1 f_L_made (mCons (mVar 3) (mNil)) (mNil)) (mCons (mOp dIx (mVar 3) (mC (.int 1))) (mCons (mOp dIx (mVar 3) (mC (.int 2))) (mNil))))) (mgTup 3 (mgCons (mgName 4) (mgCons (mgName 5) (mgCons (mgName 6) (mgNil)))))) (mSeq (mAsg (mTup (mCons (mCall 1 0 [0] 1 f_L_odd_modulus (mCons (mVar 0) (mNil)) (mNil)) (mCons (mCall 4 0 [0, 1, 2, 3] 4 f_L_odd_values (mCons (mVar 0) (mCons (mVar 1) (mCons (mVar 5) (mCons (mC (.int 10)) (mNil))))) (mNil)) (mCons (mCall 4 0 [0, 1, 2, 3] 4 f_L_odd_values (mCons (mVar 0) (mCons (mVar 1) (mCons (mVar 6) (mCons (mCB dLen (mCons (mVar 6) (mNil))) (mNil))))) (mNil)) (mNil))))) (mgTup 3 (mgCons (mgName 7) (mgCons (mgTup 2 (mgCons (mgName 8) (mgCons (mgName 9) (mgNil)))) (mgCons (mgTup 2 (mgCons (mgName 10) (mgCons (mgName 11) (mgNil)))) (mgNil)))))) (mSeq (mSet 11 (mIf (mAndT (mTest (mUn (dIsi "tuple") (mVar 10))) (mTest (mOp (dCmp fun i j => decide (i < j)) (mCB dLen (mCons (mVar 10) (mNil))) (mCB dLen (mCons (mVar 6) (mNil)))))) (mC .non) (mVar 11))) (mSeq (mSet 12 (mTup (mCons (mLamC 0 [] (mMake ("Register" : Str) 3 0 [0, 1, 2, 3] 4 f_Register___init__ (mCons (mVar 7) (mCons (mVar 8) (mCons (mVar 10) (mNil)))) (mNil)) f_L_kept_v3 (mNil)) (mNil)))) (mSeq (mSet 12 (mOp dAdd (mVar 12) (mTup (mCons (mLamC 0 [] (mMake ("Register" : Str) 3 0 [0, 1, 2, 3] 4 f_Register___init__ (mCons (mVar 1) (mCons (mVar 8) (mCons (mVar 10) (mNil)))) (mNil)) f_L_kept_v3 (mNil)) (mNil))))) (mSeq (mSet 12 (mOp dAdd (mVar 12) (mTup (mCons (mLamC 0 [] (mMake ("Register" : Str) 3 0 [0, 1, 2, 3] 4 f_Register___init__ (mCons (mVar 1) (mCons (mVar 5) (mCons (mVar 10) (mNil)))) (mNil)) f_L_kept_v3 (mNil)) (mNil))))) (mSeq (mSet 12 (mOp dAdd (mVar 12) (mTup (mCons (mLamC 0 [] (mMake ("Register" : Str) 0 (List.length [("start" : Str), ("rule" : Str), ("modulus" : Str)]) [0, 3, 2, 1] 4 f_Register___init__ (mNil) (mCons (mVar 10) (mCons (mVar 5) (mCons (mVar 1) (mNil))))) f_L_kept_v3 (mNil)) (mNil))))) (mSeq (mSet 12 (mOp dAdd (mVar 12) (mTup (mCons (mLamC 0 [] (mMake ("Register" : Str) 3 0 [0, 1, 2, 3] 4 f_Register___init__ (mCons (mVar 1) (mCons (mOp dMul (mTup (mCons (mC (.int 1)) (mNil))) (mC (.int 11))) (mCons (mOp dMul (mTup (mCons (mC (.int 0)) (mNil))) (mC (.int 11))) (mNil)))) (mNil)) f_L_kept_v3 (mNil)) (mNil))))) (mSeq (mSet 12 (mOp dAdd (mVar 12) (mTup (mCons (mLamC 0 [] (mMake ("Register" : Str) 3 0 [0, 1, 2, 3] 4 f_Register___init__ (mCons (mVar 1) (mCons (mTup (mCons (mC (.int 1)) (mCons (mC (.int 0)) (mCons (mC (.int 1)) (mNil))))) (mCons (mTup (mCons (mC (.int 0)) (mCons (mC (.int 1)) (mNil)))) (mNil)))) (mNil)) f_L_kept_v3 (mNil)) (mNil))))) (mSeq (mIfS (mNotT (mTest (mCall 2 0 [0, 1] 2 (f_L_same 8) (mCons (mVar 12) (mCons (mTup (mCons (mTup (mCons (mC (.str ("number" : Str))) (mCons (mVar 7) (mNil)))) (mCons (mTup (mCons (mC (.str ("rule" : Str))) (mCons (mVar 9) (mNil)))) (mCons (mTup (mCons (mC (.str ("start" : Str))) (mCons (mVar 11) (mNil)))) (mCons (mTup (mCons (mC (.str ("start" : Str))) (mCons (mVar 11) (mNil)))) (mCons (mTup (mCons (mC (.str ("rule" : Str))) (mCons (mC (.int 10)) (mNil)))) (mCons (mTup (mCons (mC (.str ("start" : Str))) (mCons (mC .non) (mNil)))) (mNil)))))))) (mNil))) (mNil)))) (mRet (mC (.bl false))) (mNext)) (mSeq (mAsg (mTup (mCons (mCall 2 0 [0, 1] 2 f_L_of (mCons (mVar 0) (mCons (mTup (mCons (mC .non) (mCons (mC (.int 3)) (mCons (mVar 3) (mCons (mVar 5) (mCons (mLsV (mNewL (mNil))) (mCons (mC .emp) (mCons (mC (.bl true)) (mCons (mC (.str ("register" : Str))) (mNil)))))))))) (mNil))) (mNil)) (mCons (mCall 2 0 [0, 1] 2 f_L_of (mCons (mVar 0) (mCons (mTup (mCons (mC .non) (mCons (mOp dSub (mC (.int 0)) (mC (.int 1))) (mCons (mC (.bl true)) (mCons (mC (.str ("1" : Str))) (mCons (mOp dAdd (mOp dPow (mC (.int 10)) (mC (.int 18))) (mC (.int 1))) (mCons (mTup (mCons (mC (.int 1)) (mNil))) (mNil)))))))) (mNil))) (mNil)) (mNil)))) (mgTup 2 (mgCons (mgName 13) (mgCons (mgName 14) (mgNil))))) (mFor (mItems (mTup (mCons (mTup (mCons (mC (.glo ("row_of" : Str))) (mCons (mC (.int 61)) (mNil)))) (mCons (mTup (mCons (mC (.glo ("value_at" : Str))) (mCons (mVar 14) (mNil)))) (mCons (mTup (mCons (mC (.glo ("state_at" : Str))) (mCons (mVar 14) (mNil)))) (mNil)))))) (mgTup 2 (mgCons (mgName 15) (mgCons (mgName 16) (mgNil)))) (mSeq (mSet 12 (mTup (mCons (mLamC 0 [] (mCallV 15 2 0 [0, 1] (tabF [(("row_of" : Str), 2, f_row_of), (("value_at" : Str), 2, f_value_at), (("state_at" : Str), 2, f_state_at)]) (mCons (mVar 13) (mCons (mVar 16) (mNil))) (mNil)) f_L_kept_v3 (mNil)) (mNil)))) (mSeq (mSet 12 (mOp dAdd (mVar 12) (mTup (mCons (mLamC 0 [] (mCallV 15 2 0 [0, 1] (tabF [(("row_of" : Str), 2, f_row_of), (("value_at" : Str), 2, f_value_at), (("state_at" : Str), 2, f_state_at)]) (mCons (mVar 4) (mCons (mVar 16) (mNil))) (mNil)) f_L_kept_v3 (mNil)) (mNil))))) (mSeq (mSet 12 (mOp dAdd (mVar 12) (mTup (mCons (mLamC 0 [] (mCallV 15 2 0 [0, 1] (tabF [(("row_of" : Str), 2, f_row_of), (("value_at" : Str), 2, f_value_at), (("state_at" : Str), 2, f_state_at)]) (mCons (mVar 4) (mCons (mC .non) (mNil))) (mNil)) f_L_kept_v3 (mNil)) (mNil))))) (mIfS (mNotT (mTest (mCall 2 0 [0, 1] 2 (f_L_same 8) (mCons (mVar 12) (mCons (mTup (mCons (mTup (mCons (mC (.str ("notaregister" : Str))) (mCons (mVar 13) (mNil)))) (mCons (mTup (mCons (mC (.str ("number" : Str))) (mCons (mVar 16) (mNil)))) (mCons (mTup (mCons (mC (.str ("number" : Str))) (mCons (mC .non) (mNil)))) (mNil))))) (mNil))) (mNil)))) (mRet (mC (.bl false))) (mNext))))))))))))))))))) (mSeq (mPar 17 18 (mCons (mMake ("Register" : Str) 3 0 [0, 1, 2, 3] 4 f_Register___init__ (mCons (mC (.int 5)) (mCons (mTup (mCons (mC (.int 1)) (mCons (mC (.int 1)) (mNil)))) (mCons (mTup (mCons (mC (.int 0)) (mCons (mC (.int 1)) (mNil)))) (mNil)))) (mNil)) (mCons (mMake ("Register" : Str) 3 0 [0, 1, 2, 3] 4 f_Register___init__ (mCons (mC (.int 2)) (mCons (mTup (mCons (mC (.int 1)) (mCons (mC (.int 1)) (mCons (mC (.int 0)) (mNil))))) (mCons (mTup (mCons (mC (.int 0)) (mCons (mC (.int 0)) (mCons (mC (.int 1)) (mNil))))) (mNil)))) (mNil)) (mNil)))) (mRet (mCall 2 0 [0, 1] 2 (f_L_same 8) (mCons (mTup (mCons (mCall 2 0 [0, 1] 2 f_row_of (mCons (mVar 17) (mCons (mC (.int 10)) (mNil))) (mNil)) (mCons (mCall 2 0 [0, 1] 2 f_row_of (mCons (mVar 18) (mCons (mC (.int 10)) (mNil))) (mNil)) (mCons (mCall 2 0 [0, 1] 2 f_state_at (mCons (mVar 17) (mCons (mC (.int 4)) (mNil))) (mNil)) (mCons (mCall 2 0 [0, 1] 2 f_value_at (mCons (mMake ("Register" : Str) 3 0 [0, 1, 2, 3] 4 f_Register___init__ (mCons (mC (.int 3)) (mCons (mTup (mNil)) (mCons (mTup (mNil)) (mNil)))) (mNil)) (mCons (mC (.int 5)) (mNil))) (mNil)) (mNil)))))) (mCons (mTup (mCons (mTup (mCons (mC (.int 0)) (mCons (mC (.int 1)) (mCons (mC (.int 1)) (mCons (mC (.int 2)) (mCons (mC (.int 3)) (mCons (mC (.int 0)) (mCons (mC (.int 3)) (mCons (mC (.int 3)) (mCons (mC (.int 1)) (mCons (mC (.int 4)) (mNil)))))))))))) (mCons (mTup (mCons (mC (.int 0)) (mCons (mC (.int 0)) (mCons (mC (.int 1)) (mCons (mC (.int 0)) (mCons (mC (.int 1)) (mCons (mC (.int 1)) (mCons (mC (.int 1)) (mCons (mC (.int 0)) (mCons (mC (.int 0)) (mCons (mC (.int 1)) (mNil)))))))))))) (mCons (mTup (mCons (mC (.int 3)) (mCons (mC (.int 0)) (mNil)))) (mCons (mC (.int 0)) (mNil)))))) (mNil))) (mNil))))
noncomputable def f_L_right_v4 : MF := runF 19 t_L_right_v4
noncomputable def t_law_v4 : MS := mRet (mCB (dAllAny fun l => l.all id) (mCons (mLsV (mLcN [1] (mRng1 (mCons (mCB (d2I fun i j => if j > i then j else i) (mCons (mC (.int 1)) (mCons (mCB (d2I fun i j => if j < i then j else i) (mCons (mCB dLen (mCons (mVar 0) (mNil))) (mCons (mC (.int 3)) (mNil)))) (mNil)))) (mNil))) (mgName 1) (mC true) (mCall 1 0 [0] 1 f_L_right_v4 (mCons (mCall 2 0 [0, 1] 2 f_L_bowl (mCons (mVar 0) (mCons (mVar 1) (mNil))) (mNil)) (mNil)) (mNil)))) (mNil)))
noncomputable def f_law_v4 : MF := runF 2 t_law_v4
end SR
set_option Elab.async false
set_option linter.all false
set_option maxRecDepth 100000
set_option maxHeartbeats 4000000
namespace K03
open PySem PySem.Spec PyProof.Rows L2 DL LamX SR
def top (i : Nat) : Stmt := PySem.Challenge.pw_shiftrows_k03_registers_their_parts_and.main.body.getD i (.Pass ⟨0, 0, 0, 0⟩)
abbrev S_is_whole : Stmt := top 9
abbrev S_is_from : Stmt := top 10
abbrev S_is_below : Stmt := top 11
abbrev S_is_value : Stmt := top 12
abbrev S_wrong_at : Stmt := top 13
abbrev S_check_number : Stmt := top 19
abbrev S_check_modulus : Stmt := top 20
abbrev S_wrong_in_values : Stmt := top 21
abbrev S_check_row : Stmt := top 22
abbrev S_check_rule_of : Stmt := top 23
abbrev S_check_rule : Stmt := top 24
abbrev S_check_short_rule : Stmt := top 25
abbrev S_trimmed : Stmt := top 28
abbrev S_times_by : Stmt := top 29
abbrev S_inverse_of : Stmt := top 30
abbrev S_divided_by : Stmt := top 31
abbrev S_times_rest : Stmt := top 32
abbrev S_rest_power : Stmt := top 33
abbrev S_polynomial_by : Stmt := top 34
abbrev S_next_by : Stmt := top 36
abbrev S_broken_by : Stmt := top 37
abbrev S_keeps_by : Stmt := top 38
abbrev S_gone_by : Stmt := top 39
abbrev S_row_by : Stmt := top 42
abbrev S_value_with : Stmt := top 43
abbrev S_rest_at : Stmt := top 44
abbrev S_value_by : Stmt := top 45
abbrev S_state_by : Stmt := top 46
abbrev S_check_start : Stmt := top 48
abbrev S_Register___init__ : Stmt := (C8.clsBody (top 49)).getD 0 (.Pass ⟨0, 0, 0, 0⟩)
abbrev S_Register_modulus : Stmt := (C8.clsBody (top 49)).getD 1 (.Pass ⟨0, 0, 0, 0⟩)
abbrev S_Register_rule : Stmt := (C8.clsBody (top 49)).getD 2 (.Pass ⟨0, 0, 0, 0⟩)
abbrev S_Register_start : Stmt := (C8.clsBody (top 49)).getD 3 (.Pass ⟨0, 0, 0, 0⟩)
abbrev S_Register_parts : Stmt := (C8.clsBody (top 49)).getD 4 (.Pass ⟨0, 0, 0, 0⟩)
abbrev S_Register___eq__ : Stmt := (C8.clsBody (top 49)).getD 5 (.Pass ⟨0, 0, 0, 0⟩)
abbrev S_check_register : Stmt := top 50
abbrev S_row_of : Stmt := top 51
abbrev S_value_at : Stmt := top 52
abbrev S_state_at : Stmt := top 53
abbrev S_check_told : Stmt := top 55
abbrev S_keeps : Stmt := top 56
abbrev S_gone_on : Stmt := top 57
abbrev S_L_bowl : Stmt := top 59
abbrev S_L_draw : Stmt := top 60
abbrev S_L_of : Stmt := top 61
abbrev S_L_same : Stmt := top 62
abbrev S_L_rule : Stmt := top 63
abbrev S_L_go : Stmt := top 64
abbrev S_L_register : Stmt := top 65
abbrev S_L_first : Stmt := top 66
abbrev S_L_made : Stmt := top 67
abbrev S_L_odd_modulus : Stmt := top 68
abbrev S_L_odd_values : Stmt := top 69
abbrev S_L_kept : Stmt := top 70
abbrev S_L_register_right : Stmt := top 71
abbrev S_L_right : Stmt := top 72
abbrev S_law : Stmt := top 73
/-! the tables of code objects -/
abbrev q_wrong_in_values : Str := ((("wrong_in_values" : Str) ++ (".<locals>." : Str)) : Str) ++ ("<lambda>" : Str)
abbrev q_check_start : Str := ((("check_start" : Str) ++ (".<locals>." : Str)) : Str) ++ ("<lambda>" : Str)
abbrev q_L_right : Str := ((("_law_right" : Str) ++ (".<locals>." : Str)) : Str) ++ ("<lambda>" : Str)
abbrev P_ (K : PySem.W.Frag) (x : Str) : Addr := (He.cT K (x, none)).2
def TT (K : PySem.W.Frag) : List (Addr × Str) := [(P_ K ("wrong_in_values" : Str), q_wrong_in_values), (P_ K ("check_start" : Str), q_check_start), (P_ K ("_law_right" : Str), q_L_right)]
theorem tmem_wrong_in_values (K : PySem.W.Frag) : (P_ K ("wrong_in_values" : Str), q_wrong_in_values) ∈ TT K := List.mem_cons_self
theorem tmem_check_start (K : PySem.W.Frag) : (P_ K ("check_start" : Str), q_check_start) ∈ TT K := List.mem_cons_of_mem _ (List.mem_cons_self)
theorem tmem_L_right (K : PySem.W.Frag) : (P_ K ("_law_right" : Str), q_L_right) ∈ TT K := List.mem_cons_of_mem _ (List.mem_cons_of_mem _ (List.mem_cons_self))
def exL : List Str := [("Over" : Str), ("InvalidNumber" : Str), ("NotARegister" : Str), ("InvalidRow" : Str), ("InvalidRule" : Str), ("InvalidStart" : Str)]
def tkX (c : Str) : Option Bool := if c ∈ exL then some true else none
def isX (c y : Str) : Option Bool := if c ∈ exL ∧ y ∈ exL then some (decide (c = y)) else none
/-- what the written part says -/
structure Fx (P : Program) (w : World) (K : PySem.W.Frag) (mg : Str → Option Value) (base : Heap) : Prop where
  b_ValueError : mg ("ValueError" : Str) = none
  b_abs : mg ("abs" : Str) = none
  b_all : mg ("all" : Str) = none
  b_bool : mg ("bool" : Str) = none
  b_divmod : mg ("divmod" : Str) = none
  b_enumerate : mg ("enumerate" : Str) = none
  b_int : mg ("int" : Str) = none
  b_isinstance : mg ("isinstance" : Str) = none
  b_len : mg ("len" : Str) = none
  b_list : mg ("list" : Str) = none
  b_max : mg ("max" : Str) = none
  b_min : mg ("min" : Str) = none
  b_range : mg ("range" : Str) = none
  b_str : mg ("str" : Str) = none
  b_sum : mg ("sum" : Str) = none
  b_tuple : mg ("tuple" : Str) = none
  b_zip : mg ("zip" : Str) = none
  c_MODULI : ∃ a, mg ("MODULI" : Str) = some (.ref a) ∧ Kt K a [V.int 2, V.int 3, V.int 5, V.int 7]
  c_MOST_PLACE : ∃ t, mg ("MOST_PLACE" : Str) = some (.int 1000000000000000000 t)
  c_MOST_TAPS : ∃ t, mg ("MOST_TAPS" : Str) = some (.int 10 t)
  c_MOST_VALUES : ∃ t, mg ("MOST_VALUES" : Str) = some (.int 60 t)
  c_ONE_ON : ∃ a, mg ("ONE_ON" : Str) = some (.ref a) ∧ Kt K a [V.int 0, V.int 1]
  c_TWO : ∃ t, mg ("TWO" : Str) = some (.int 2 t)
  x_InvalidNumber : ∃ C fI cc cda, mg ("InvalidNumber" : Str) = some (.ref C) ∧ PySem.DXE.SupTxt P K C fI cc cda ("given" : Str)
  x_InvalidRow : ∃ C fI cc cda, mg ("InvalidRow" : Str) = some (.ref C) ∧ PySem.DXE.SupTxt P K C fI cc cda ("index" : Str)
  x_InvalidRule : ∃ C fI cc cda, mg ("InvalidRule" : Str) = some (.ref C) ∧ PySem.DXE.SupTxt P K C fI cc cda ("index" : Str)
  x_InvalidStart : ∃ C fI cc cda, mg ("InvalidStart" : Str) = some (.ref C) ∧ PySem.DXE.SupTxt P K C fI cc cda ("index" : Str)
  x_NotARegister : ∃ C fI cc cda, mg ("NotARegister" : Str) = some (.ref C) ∧ PySem.DXE.SupTxt P K C fI cc cda ("given" : Str)
  x_Over : ∃ C, mg ("Over" : Str) = some (.ref C) ∧ PySem.W.excIn K C He.veBase "ValueError.__new__" = true ∧ PySem.W.keepIn K (.ref C) = true ∧ PySem.W.subIn K (.ref C) (.type "BaseException") = some true ∧ PySem.W.typeIn K (.ref C) = some (.type "type")
  cl_Register : ∃ Ca f fd, mg ("Register" : Str) = some (.ref Ca) ∧ L2.Mk K Ca f ∧ FunD K ("__init__" : Str) ("Register.__init__" : Str) (defArgs S_Register___init__) (defBody S_Register___init__) (defScope S_Register___init__) [] [] f fd
  is_Register : IsC K mg [("Register" : Str)] ("Register" : Str)
  eq_Register : ∃ Ca f fd, mg ("Register" : Str) = some (.ref Ca) ∧ PySem.W.findIn K (.ref Ca) "__eq__" = some (some (.ref f)) ∧ PySem.W.findIn K (.ref Ca) "__ne__" = some (some (.builtin "object.__ne__")) ∧ PySem.W.isFn K (.ref f) = true ∧ PySem.W.mroIn K Ca (.type "object") = some true ∧ PySem.W.subIn K (.type "tuple") (.ref Ca) = some false ∧ (∀ C' ∈ ([("Register" : Str)] : List Str), ∃ Cb, mg C' = some (.ref Cb) ∧ PySem.W.notFirst K Ca (.ref Cb) = true) ∧ FunD K ("__eq__" : Str) ("Register.__eq__" : Str) (defArgs S_Register___eq__) (defBody S_Register___eq__) (defScope S_Register___eq__) [] [] f fd
  pr_Register_modulus : ∃ Ca p g fd, mg ("Register" : Str) = some (.ref Ca) ∧ Cls K Ca ∧ PropOf K Ca ("modulus" : Str) p g ∧ FunD K ("modulus" : Str) ("Register.modulus" : Str) (defArgs S_Register_modulus) (defBody S_Register_modulus) (defScope S_Register_modulus) [] [] g fd
  pr_Register_parts : ∃ Ca p g fd, mg ("Register" : Str) = some (.ref Ca) ∧ Cls K Ca ∧ PropOf K Ca ("parts" : Str) p g ∧ FunD K ("parts" : Str) ("Register.parts" : Str) (defArgs S_Register_parts) (defBody S_Register_parts) (defScope S_Register_parts) [] [] g fd
  pr_Register_rule : ∃ Ca p g fd, mg ("Register" : Str) = some (.ref Ca) ∧ Cls K Ca ∧ PropOf K Ca ("rule" : Str) p g ∧ FunD K ("rule" : Str) ("Register.rule" : Str) (defArgs S_Register_rule) (defBody S_Register_rule) (defScope S_Register_rule) [] [] g fd
  pr_Register_start : ∃ Ca p g fd, mg ("Register" : Str) = some (.ref Ca) ∧ Cls K Ca ∧ PropOf K Ca ("start" : Str) p g ∧ FunD K ("start" : Str) ("Register.start" : Str) (defArgs S_Register_start) (defBody S_Register_start) (defScope S_Register_start) [] [] g fd
  fld_three : FldC K mg [("Register" : Str)] ("three" : Str)
  fd_is_whole : ∃ f fd, FunD K ("is_whole" : Str) ("is_whole" : Str) (defArgs S_is_whole) (defBody S_is_whole) (defScope S_is_whole) [] [] f fd ∧ mg ("is_whole" : Str) = some (.ref f)
  fd_is_from : ∃ f fd, FunD K ("is_from" : Str) ("is_from" : Str) (defArgs S_is_from) (defBody S_is_from) (defScope S_is_from) [] [] f fd ∧ mg ("is_from" : Str) = some (.ref f)
  fd_is_below : ∃ f fd, FunD K ("is_below" : Str) ("is_below" : Str) (defArgs S_is_below) (defBody S_is_below) (defScope S_is_below) [] [] f fd ∧ mg ("is_below" : Str) = some (.ref f)
  fd_is_value : ∃ f fd, FunD K ("is_value" : Str) ("is_value" : Str) (defArgs S_is_value) (defBody S_is_value) (defScope S_is_value) [] [] f fd ∧ mg ("is_value" : Str) = some (.ref f)
  fd_wrong_at : ∃ f fd, FunD K ("wrong_at" : Str) ("wrong_at" : Str) (defArgs S_wrong_at) (defBody S_wrong_at) (defScope S_wrong_at) [] [] f fd ∧ mg ("wrong_at" : Str) = some (.ref f)
  fd_check_number : ∃ f fd, FunD K ("check_number" : Str) ("check_number" : Str) (defArgs S_check_number) (defBody S_check_number) (defScope S_check_number) [] [] f fd ∧ mg ("check_number" : Str) = some (.ref f)
  fd_check_modulus : ∃ f fd, FunD K ("check_modulus" : Str) ("check_modulus" : Str) (defArgs S_check_modulus) (defBody S_check_modulus) (defScope S_check_modulus) [] [] f fd ∧ mg ("check_modulus" : Str) = some (.ref f)
  fd_wrong_in_values : ∃ f fd, FunD K ("wrong_in_values" : Str) ("wrong_in_values" : Str) (defArgs S_wrong_in_values) (defBody S_wrong_in_values) (defScope S_wrong_in_values) [] [] f fd ∧ mg ("wrong_in_values" : Str) = some (.ref f)
  fd_check_row : ∃ f fd, FunD K ("check_row" : Str) ("check_row" : Str) (defArgs S_check_row) (defBody S_check_row) (defScope S_check_row) [] [] f fd ∧ mg ("check_row" : Str) = some (.ref f)
  fd_check_rule_of : ∃ f fd, FunD K ("check_rule_of" : Str) ("check_rule_of" : Str) (defArgs S_check_rule_of) (defBody S_check_rule_of) (defScope S_check_rule_of) [] [] f fd ∧ mg ("check_rule_of" : Str) = some (.ref f)
  fd_check_rule : ∃ f fd, FunD K ("check_rule" : Str) ("check_rule" : Str) (defArgs S_check_rule) (defBody S_check_rule) (defScope S_check_rule) [] [] f fd ∧ mg ("check_rule" : Str) = some (.ref f)
  fd_check_short_rule : ∃ f fd, FunD K ("check_short_rule" : Str) ("check_short_rule" : Str) (defArgs S_check_short_rule) (defBody S_check_short_rule) (defScope S_check_short_rule) [] [] f fd ∧ mg ("check_short_rule" : Str) = some (.ref f)
  fd_trimmed : ∃ f fd, FunD K ("trimmed" : Str) ("trimmed" : Str) (defArgs S_trimmed) (defBody S_trimmed) (defScope S_trimmed) [] [] f fd ∧ mg ("trimmed" : Str) = some (.ref f)
  fd_times_by : ∃ f fd, FunD K ("times_by" : Str) ("times_by" : Str) (defArgs S_times_by) (defBody S_times_by) (defScope S_times_by) [] [] f fd ∧ mg ("times_by" : Str) = some (.ref f)
  fd_inverse_of : ∃ f fd, FunD K ("inverse_of" : Str) ("inverse_of" : Str) (defArgs S_inverse_of) (defBody S_inverse_of) (defScope S_inverse_of) [] [] f fd ∧ mg ("inverse_of" : Str) = some (.ref f)
  fd_divided_by : ∃ f fd, FunD K ("divided_by" : Str) ("divided_by" : Str) (defArgs S_divided_by) (defBody S_divided_by) (defScope S_divided_by) [] [] f fd ∧ mg ("divided_by" : Str) = some (.ref f)
  fd_times_rest : ∃ f fd, FunD K ("times_rest" : Str) ("times_rest" : Str) (defArgs S_times_rest) (defBody S_times_rest) (defScope S_times_rest) [] [] f fd ∧ mg ("times_rest" : Str) = some (.ref f)
  fd_rest_power : ∃ f fd, FunD K ("rest_power" : Str) ("rest_power" : Str) (defArgs S_rest_power) (defBody S_rest_power) (defScope S_rest_power) [] [] f fd ∧ mg ("rest_power" : Str) = some (.ref f)
  fd_polynomial_by : ∃ f fd, FunD K ("polynomial_by" : Str) ("polynomial_by" : Str) (defArgs S_polynomial_by) (defBody S_polynomial_by) (defScope S_polynomial_by) [] [] f fd ∧ mg ("polynomial_by" : Str) = some (.ref f)
  fd_next_by : ∃ f fd, FunD K ("next_by" : Str) ("next_by" : Str) (defArgs S_next_by) (defBody S_next_by) (defScope S_next_by) [] [] f fd ∧ mg ("next_by" : Str) = some (.ref f)
  fd_broken_by : ∃ f fd, FunD K ("broken_by" : Str) ("broken_by" : Str) (defArgs S_broken_by) (defBody S_broken_by) (defScope S_broken_by) [] [] f fd ∧ mg ("broken_by" : Str) = some (.ref f)
  fd_keeps_by : ∃ f fd, FunD K ("keeps_by" : Str) ("keeps_by" : Str) (defArgs S_keeps_by) (defBody S_keeps_by) (defScope S_keeps_by) [] [] f fd ∧ mg ("keeps_by" : Str) = some (.ref f)
  fd_gone_by : ∃ f fd, FunD K ("gone_by" : Str) ("gone_by" : Str) (defArgs S_gone_by) (defBody S_gone_by) (defScope S_gone_by) [] [] f fd ∧ mg ("gone_by" : Str) = some (.ref f)
  fd_row_by : ∃ f fd, FunD K ("row_by" : Str) ("row_by" : Str) (defArgs S_row_by) (defBody S_row_by) (defScope S_row_by) [] [] f fd ∧ mg ("row_by" : Str) = some (.ref f)
  fd_value_with : ∃ f fd, FunD K ("value_with" : Str) ("value_with" : Str) (defArgs S_value_with) (defBody S_value_with) (defScope S_value_with) [] [] f fd ∧ mg ("value_with" : Str) = some (.ref f)
  fd_rest_at : ∃ f fd, FunD K ("rest_at" : Str) ("rest_at" : Str) (defArgs S_rest_at) (defBody S_rest_at) (defScope S_rest_at) [] [] f fd ∧ mg ("rest_at" : Str) = some (.ref f)
  fd_value_by : ∃ f fd, FunD K ("value_by" : Str) ("value_by" : Str) (defArgs S_value_by) (defBody S_value_by) (defScope S_value_by) [] [] f fd ∧ mg ("value_by" : Str) = some (.ref f)
  fd_state_by : ∃ f fd, FunD K ("state_by" : Str) ("state_by" : Str) (defArgs S_state_by) (defBody S_state_by) (defScope S_state_by) [] [] f fd ∧ mg ("state_by" : Str) = some (.ref f)
  fd_check_start : ∃ f fd, FunD K ("check_start" : Str) ("check_start" : Str) (defArgs S_check_start) (defBody S_check_start) (defScope S_check_start) [] [] f fd ∧ mg ("check_start" : Str) = some (.ref f)
  fd_check_register : ∃ f fd, FunD K ("check_register" : Str) ("check_register" : Str) (defArgs S_check_register) (defBody S_check_register) (defScope S_check_register) [] [] f fd ∧ mg ("check_register" : Str) = some (.ref f)
  fd_row_of : ∃ f fd, FunD K ("row_of" : Str) ("row_of" : Str) (defArgs S_row_of) (defBody S_row_of) (defScope S_row_of) [] [] f fd ∧ mg ("row_of" : Str) = some (.ref f)
  fd_value_at : ∃ f fd, FunD K ("value_at" : Str) ("value_at" : Str) (defArgs S_value_at) (defBody S_value_at) (defScope S_value_at) [] [] f fd ∧ mg ("value_at" : Str) = some (.ref f)
  fd_state_at : ∃ f fd, FunD K ("state_at" : Str) ("state_at" : Str) (defArgs S_state_at) (defBody S_state_at) (defScope S_state_at) [] [] f fd ∧ mg ("state_at" : Str) = some (.ref f)
  fd_check_told : ∃ f fd, FunD K ("check_told" : Str) ("check_told" : Str) (defArgs S_check_told) (defBody S_check_told) (defScope S_check_told) [] [] f fd ∧ mg ("check_told" : Str) = some (.ref f)
  fd_keeps : ∃ f fd, FunD K ("keeps" : Str) ("keeps" : Str) (defArgs S_keeps) (defBody S_keeps) (defScope S_keeps) [] [] f fd ∧ mg ("keeps" : Str) = some (.ref f)
  fd_gone_on : ∃ f fd, FunD K ("gone_on" : Str) ("gone_on" : Str) (defArgs S_gone_on) (defBody S_gone_on) (defScope S_gone_on) [] [] f fd ∧ mg ("gone_on" : Str) = some (.ref f)
  fd_L_bowl : ∃ f fd, FunD K ("_law_bowl" : Str) ("_law_bowl" : Str) (defArgs S_L_bowl) (defBody S_L_bowl) (defScope S_L_bowl) [] [] f fd ∧ mg ("_law_bowl" : Str) = some (.ref f)
  fd_L_draw : ∃ f fd, FunD K ("_law_draw" : Str) ("_law_draw" : Str) (defArgs S_L_draw) (defBody S_L_draw) (defScope S_L_draw) [] [] f fd ∧ mg ("_law_draw" : Str) = some (.ref f)
  fd_L_of : ∃ f fd, FunD K ("_law_of" : Str) ("_law_of" : Str) (defArgs S_L_of) (defBody S_L_of) (defScope S_L_of) [] [] f fd ∧ mg ("_law_of" : Str) = some (.ref f)
  fd_L_same : ∃ f fd, FunD K ("_law_same" : Str) ("_law_same" : Str) (defArgs S_L_same) (defBody S_L_same) (defScope S_L_same) [] [] f fd ∧ mg ("_law_same" : Str) = some (.ref f)
  fd_L_rule : ∃ f fd, FunD K ("_law_rule" : Str) ("_law_rule" : Str) (defArgs S_L_rule) (defBody S_L_rule) (defScope S_L_rule) [] [] f fd ∧ mg ("_law_rule" : Str) = some (.ref f)
  fd_L_go : ∃ f fd, FunD K ("_law_go" : Str) ("_law_go" : Str) (defArgs S_L_go) (defBody S_L_go) (defScope S_L_go) [] [] f fd ∧ mg ("_law_go" : Str) = some (.ref f)
  fd_L_register : ∃ f fd, FunD K ("_law_register" : Str) ("_law_register" : Str) (defArgs S_L_register) (defBody S_L_register) (defScope S_L_register) [] [] f fd ∧ mg ("_law_register" : Str) = some (.ref f)
  fd_L_first : ∃ f fd, FunD K ("_law_first" : Str) ("_law_first" : Str) (defArgs S_L_first) (defBody S_L_first) (defScope S_L_first) [] [] f fd ∧ mg ("_law_first" : Str) = some (.ref f)
  fd_L_made : ∃ f fd, FunD K ("_law_made" : Str) ("_law_made" : Str) (defArgs S_L_made) (defBody S_L_made) (defScope S_L_made) [] [] f fd ∧ mg ("_law_made" : Str) = some (.ref f)
  fd_L_odd_modulus : ∃ f fd, FunD K ("_law_odd_modulus" : Str) ("_law_odd_modulus" : Str) (defArgs S_L_odd_modulus) (defBody S_L_odd_modulus) (defScope S_L_odd_modulus) [] [] f fd ∧ mg ("_law_odd_modulus" : Str) = some (.ref f)
  fd_L_odd_values : ∃ f fd, FunD K ("_law_odd_values" : Str) ("_law_odd_values" : Str) (defArgs S_L_odd_values) (defBody S_L_odd_values) (defScope S_L_odd_values) [] [] f fd ∧ mg ("_law_odd_values" : Str) = some (.ref f)
  fd_L_kept : ∃ f fd, FunD K ("_law_kept" : Str) ("_law_kept" : Str) (defArgs S_L_kept) (defBody S_L_kept) (defScope S_L_kept) [] [] f fd ∧ mg ("_law_kept" : Str) = some (.ref f)
  fd_L_register_right : ∃ f fd, FunD K ("_law_register_right" : Str) ("_law_register_right" : Str) (defArgs S_L_register_right) (defBody S_L_register_right) (defScope S_L_register_right) [] [] f fd ∧ mg ("_law_register_right" : Str) = some (.ref f)
  fd_L_right : ∃ f fd, FunD K ("_law_right" : Str) ("_law_right" : Str) (defArgs S_L_right) (defBody S_L_right) (defScope S_L_right) [] [] f fd ∧ mg ("_law_right" : Str) = some (.ref f)
  fd_law : ∃ f fd, FunD K ("law" : Str) ("law" : Str) (defArgs S_law) (defBody S_law) (defScope S_law) [] [] f fd ∧ mg ("law" : Str) = some (.ref f)
  tab_wrong_in_values : ∀ (f : Addr) (cdv : Value), mg ("wrong_in_values" : Str) = some (.ref f) → (∃ (oc : Value) (od : Option Addr) (fd : FuncData) (osl : Array (Option Value)), K.lookup f = some (⟨oc, od, .func fd, osl⟩ : Obj) ∧ fd.code = cdv) → ∃ c, cdv = .ref c ∧ TabB base mg c (P_ K ("wrong_in_values" : Str))
  tun_wrong_in_values : ∀ p ∈ TT K, p.1 = P_ K ("wrong_in_values" : Str) → p.2 = q_wrong_in_values
  tab_check_start : ∀ (f : Addr) (cdv : Value), mg ("check_start" : Str) = some (.ref f) → (∃ (oc : Value) (od : Option Addr) (fd : FuncData) (osl : Array (Option Value)), K.lookup f = some (⟨oc, od, .func fd, osl⟩ : Obj) ∧ fd.code = cdv) → ∃ c, cdv = .ref c ∧ TabB base mg c (P_ K ("check_start" : Str))
  tun_check_start : ∀ p ∈ TT K, p.1 = P_ K ("check_start" : Str) → p.2 = q_check_start
  tab_L_right : ∀ (f : Addr) (cdv : Value), mg ("_law_right" : Str) = some (.ref f) → (∃ (oc : Value) (od : Option Addr) (fd : FuncData) (osl : Array (Option Value)), K.lookup f = some (⟨oc, od, .func fd, osl⟩ : Obj) ∧ fd.code = cdv) → ∃ c, cdv = .ref c ∧ TabB base mg c (P_ K ("_law_right" : Str))
  tun_L_right : ∀ p ∈ TT K, p.1 = P_ K ("_law_right" : Str) → p.2 = q_L_right
  xg_ShiftError : ∃ C, mg "ShiftError" = some (.ref C)
  xg_Over : ∃ C, mg ("Over" : Str) = some (.ref C)
  xg_InvalidNumber : ∃ C, mg ("InvalidNumber" : Str) = some (.ref C)
  xg_NotARegister : ∃ C, mg ("NotARegister" : Str) = some (.ref C)
  xg_InvalidRow : ∃ C, mg ("InvalidRow" : Str) = some (.ref C)
  xg_InvalidRule : ∃ C, mg ("InvalidRule" : Str) = some (.ref C)
  xg_InvalidStart : ∃ C, mg ("InvalidStart" : Str) = some (.ref C)
  xc : ∀ c0 C, mg c0 = some (.ref C) → tkX c0 = some true → XcC K C
  xk : ∀ c0 C y D b, mg c0 = some (.ref C) → mg y = some (.ref D) → isX c0 y = some b → PySem.W.kitOne K (.ref C) (.ref D) = some b
  xv : ∀ c0 C, mg c0 = some (.ref C) → tkX c0 = some true → PySem.W.kitOne K (.ref C) (.type "ValueError") = some true
  xe : ∀ c0 C CS b, mg c0 = some (.ref C) → mg "ShiftError" = some (.ref CS) → tkX c0 = some b → PySem.W.exmOne K (.ref C) (.ref CS) = some b
  xa_given : ∀ c0 C, mg c0 = some (.ref C) → tkX c0 = some true → PySem.W.findIn K (.ref C) ("given" : Str) = some none
  xa_index : ∀ c0 C, mg c0 = some (.ref C) → tkX c0 = some true → PySem.W.findIn K (.ref C) ("index" : Str) = some none
section
variable {X : Cx} {T : List (Addr × Str)} {F : Fr} {W : WX} {ma : M D} {a : Expr} {p pos pos2 : Pos} {k : Nat}
theorem d_c_MODULI (Y : Fx X.prog X.w X.K X.mg X.base) (hg : Gl X ("MODULI" : Str) := by rfl) : SE X T F W (mC (.tup [(.int 2), (.int 3), (.int 5), (.int 7)])) (.Name ("MODULI" : Str) p) := by
  obtain ⟨a, h, hk⟩ := Y.c_MODULI
  exact se_gloC hg h (v := .ref a) rfl fun _ _ _ => .tupK hk (.cons (.int _) (.cons (.int _) (.cons (.int _) (.cons (.int _) .nil))))
theorem d_c_MOST_PLACE (Y : Fx X.prog X.w X.K X.mg X.base) (hg : Gl X ("MOST_PLACE" : Str) := by rfl) : SE X T F W (mC (.int 1000000000000000000)) (.Name ("MOST_PLACE" : Str) p) := by
  obtain ⟨t, h⟩ := Y.c_MOST_PLACE
  exact se_gloC hg h (v := .int 1000000000000000000) ⟨t, rfl⟩ fun _ _ _ => .int _
theorem d_c_MOST_TAPS (Y : Fx X.prog X.w X.K X.mg X.base) (hg : Gl X ("MOST_TAPS" : Str) := by rfl) : SE X T F W (mC (.int 10)) (.Name ("MOST_TAPS" : Str) p) := by
  obtain ⟨t, h⟩ := Y.c_MOST_TAPS
  exact se_gloC hg h (v := .int 10) ⟨t, rfl⟩ fun _ _ _ => .int _
theorem d_c_MOST_VALUES (Y : Fx X.prog X.w X.K X.mg X.base) (hg : Gl X ("MOST_VALUES" : Str) := by rfl) : SE X T F W (mC (.int 60)) (.Name ("MOST_VALUES" : Str) p) := by
  obtain ⟨t, h⟩ := Y.c_MOST_VALUES
  exact se_gloC hg h (v := .int 60) ⟨t, rfl⟩ fun _ _ _ => .int _
theorem d_c_ONE_ON (Y : Fx X.prog X.w X.K X.mg X.base) (hg : Gl X ("ONE_ON" : Str) := by rfl) : SE X T F W (mC (.tup [(.int 0), (.int 1)])) (.Name ("ONE_ON" : Str) p) := by
  obtain ⟨a, h, hk⟩ := Y.c_ONE_ON
  exact se_gloC hg h (v := .ref a) rfl fun _ _ _ => .tupK hk (.cons (.int _) (.cons (.int _) .nil))
theorem d_c_TWO (Y : Fx X.prog X.w X.K X.mg X.base) (hg : Gl X ("TWO" : Str) := by rfl) : SE X T F W (mC (.int 2)) (.Name ("TWO" : Str) p) := by
  obtain ⟨t, h⟩ := Y.c_TWO
  exact se_gloC hg h (v := .int 2) ⟨t, rfl⟩ fun _ _ _ => .int _
theorem d_r_InvalidNumber (Y : Fx X.prog X.w X.K X.mg X.base) (hc : X.calm = true) (tk : Takes X W) (hr : Room k X.A) (hg : Gl X ("InvalidNumber" : Str)) (ha : SE X T F W ma a) (he : starEach (a :: []) X.env = (false, eval a X.env) :: starEach [] X.env := by rfl) (hpl : (backTo pos (starEach [] X.env)).any (·.1) = false := by rfl) : SS X T F W (mRaise ("InvalidNumber" : Str) ("given" : Str) ma) (.Raise (some (.Call (.Name ("InvalidNumber" : Str) p) [a] [] pos)) none pos2) := by
  obtain ⟨C, fI, cc, cda, h1, h2⟩ := Y.x_InvalidNumber
  exact ss_raise hc tk h2 hr h1 hg ha (by decide) he hpl
theorem d_r_InvalidRow (Y : Fx X.prog X.w X.K X.mg X.base) (hc : X.calm = true) (tk : Takes X W) (hr : Room k X.A) (hg : Gl X ("InvalidRow" : Str)) (ha : SE X T F W ma a) (he : starEach (a :: []) X.env = (false, eval a X.env) :: starEach [] X.env := by rfl) (hpl : (backTo pos (starEach [] X.env)).any (·.1) = false := by rfl) : SS X T F W (mRaise ("InvalidRow" : Str) ("index" : Str) ma) (.Raise (some (.Call (.Name ("InvalidRow" : Str) p) [a] [] pos)) none pos2) := by
  obtain ⟨C, fI, cc, cda, h1, h2⟩ := Y.x_InvalidRow
  exact ss_raise hc tk h2 hr h1 hg ha (by decide) he hpl
theorem d_r_InvalidRule (Y : Fx X.prog X.w X.K X.mg X.base) (hc : X.calm = true) (tk : Takes X W) (hr : Room k X.A) (hg : Gl X ("InvalidRule" : Str)) (ha : SE X T F W ma a) (he : starEach (a :: []) X.env = (false, eval a X.env) :: starEach [] X.env := by rfl) (hpl : (backTo pos (starEach [] X.env)).any (·.1) = false := by rfl) : SS X T F W (mRaise ("InvalidRule" : Str) ("index" : Str) ma) (.Raise (some (.Call (.Name ("InvalidRule" : Str) p) [a] [] pos)) none pos2) := by
  obtain ⟨C, fI, cc, cda, h1, h2⟩ := Y.x_InvalidRule
  exact ss_raise hc tk h2 hr h1 hg ha (by decide) he hpl
theorem d_r_InvalidStart (Y : Fx X.prog X.w X.K X.mg X.base) (hc : X.calm = true) (tk : Takes X W) (hr : Room k X.A) (hg : Gl X ("InvalidStart" : Str)) (ha : SE X T F W ma a) (he : starEach (a :: []) X.env = (false, eval a X.env) :: starEach [] X.env := by rfl) (hpl : (backTo pos (starEach [] X.env)).any (·.1) = false := by rfl) : SS X T F W (mRaise ("InvalidStart" : Str) ("index" : Str) ma) (.Raise (some (.Call (.Name ("InvalidStart" : Str) p) [a] [] pos)) none pos2) := by
  obtain ⟨C, fI, cc, cda, h1, h2⟩ := Y.x_InvalidStart
  exact ss_raise hc tk h2 hr h1 hg ha (by decide) he hpl
theorem d_r_NotARegister (Y : Fx X.prog X.w X.K X.mg X.base) (hc : X.calm = true) (tk : Takes X W) (hr : Room k X.A) (hg : Gl X ("NotARegister" : Str)) (ha : SE X T F W ma a) (he : starEach (a :: []) X.env = (false, eval a X.env) :: starEach [] X.env := by rfl) (hpl : (backTo pos (starEach [] X.env)).any (·.1) = false := by rfl) : SS X T F W (mRaise ("NotARegister" : Str) ("given" : Str) ma) (.Raise (some (.Call (.Name ("NotARegister" : Str) p) [a] [] pos)) none pos2) := by
  obtain ⟨C, fI, cc, cda, h1, h2⟩ := Y.x_NotARegister
  exact ss_raise hc tk h2 hr h1 hg ha (by decide) he hpl
theorem d_r0_Over (Y : Fx X.prog X.w X.K X.mg X.base) (tk : Takes X W) (hg : Gl X ("Over" : Str) := by rfl) (hc : X.calm = true := by rfl) : SS X T F W (mRaise0 ("Over" : Str)) (.Raise (some (.Call (.Name ("Over" : Str) p) [] [] pos)) none pos2) := by
  obtain ⟨C, h1, h2, h3, h4, h5⟩ := Y.x_Over
  exact ss_raise0 hc tk PySem.F.excBase_ValueError h2 h1 h3 (raises_own h4 h5) hg (by decide)
theorem d_xe (Y : Fx X.prog X.w X.K X.mg X.base) {c0 : Str} {C : Addr} {b : Bool} (h1 : X.mg c0 = some (.ref C)) (h2 : tkX c0 = some b) : PySem.W.exmOne X.K (.ref C) (.ref Y.xg_ShiftError.choose) = some b := Y.xe c0 C _ b h1 Y.xg_ShiftError.choose_spec h2
theorem d_nm_ShiftError (Y : Fx X.prog X.w X.K X.mg X.base) (hg : Gl X "ShiftError" := by rfl) : Names X "ShiftError" (.ref Y.xg_ShiftError.choose) := ⟨hg, by decide, .inl Y.xg_ShiftError.choose_spec⟩
theorem d_isE_Over (Y : Fx X.prog X.w X.K X.mg X.base) {c0 : Str} {C : Addr} {pp : Pay} {oe : Obj} {b dd : Addr} {pn : List (Addr × Obj)} {me : M D} {e : Expr} {p1 p2 : Pos} (hC : X.mg c0 = some (.ref C)) (ht : tkX c0 = some true) (hz : Zc (.ref C) (exDict dd pp) oe) (hf : ∃ vs, oe.data = .fields vs) (he : SE (X.suite b ((b, oe) :: pn)) T F W me e) (hg : Gl X "isinstance" := by rfl) (hg2 : Gl X ("Over" : Str) := by rfl) (hs : starEach [e, .Name ("Over" : Str) p2] X.env = (false, eval e X.env) :: starEach [.Name ("Over" : Str) p2] X.env := by rfl) : SE (X.suite b ((b, oe) :: pn)) T F W (mIsE b dd pp (isX c0 ("Over" : Str)) me) (.Call (.Name "isinstance" p1) [e, .Name ("Over" : Str) p2] [] pos) := by
  obtain ⟨D0, hD⟩ := Y.xg_Over
  exact se_isE (Y.xc c0 C hC ht) hz hf (fun b hb => Y.xk c0 C ("Over" : Str) D0 b hC hD hb) hg Y.b_isinstance hg2 hD he (by decide) hs
theorem d_isE_InvalidNumber (Y : Fx X.prog X.w X.K X.mg X.base) {c0 : Str} {C : Addr} {pp : Pay} {oe : Obj} {b dd : Addr} {pn : List (Addr × Obj)} {me : M D} {e : Expr} {p1 p2 : Pos} (hC : X.mg c0 = some (.ref C)) (ht : tkX c0 = some true) (hz : Zc (.ref C) (exDict dd pp) oe) (hf : ∃ vs, oe.data = .fields vs) (he : SE (X.suite b ((b, oe) :: pn)) T F W me e) (hg : Gl X "isinstance" := by rfl) (hg2 : Gl X ("InvalidNumber" : Str) := by rfl) (hs : starEach [e, .Name ("InvalidNumber" : Str) p2] X.env = (false, eval e X.env) :: starEach [.Name ("InvalidNumber" : Str) p2] X.env := by rfl) : SE (X.suite b ((b, oe) :: pn)) T F W (mIsE b dd pp (isX c0 ("InvalidNumber" : Str)) me) (.Call (.Name "isinstance" p1) [e, .Name ("InvalidNumber" : Str) p2] [] pos) := by
  obtain ⟨D0, hD⟩ := Y.xg_InvalidNumber
  exact se_isE (Y.xc c0 C hC ht) hz hf (fun b hb => Y.xk c0 C ("InvalidNumber" : Str) D0 b hC hD hb) hg Y.b_isinstance hg2 hD he (by decide) hs
theorem d_isE_NotARegister (Y : Fx X.prog X.w X.K X.mg X.base) {c0 : Str} {C : Addr} {pp : Pay} {oe : Obj} {b dd : Addr} {pn : List (Addr × Obj)} {me : M D} {e : Expr} {p1 p2 : Pos} (hC : X.mg c0 = some (.ref C)) (ht : tkX c0 = some true) (hz : Zc (.ref C) (exDict dd pp) oe) (hf : ∃ vs, oe.data = .fields vs) (he : SE (X.suite b ((b, oe) :: pn)) T F W me e) (hg : Gl X "isinstance" := by rfl) (hg2 : Gl X ("NotARegister" : Str) := by rfl) (hs : starEach [e, .Name ("NotARegister" : Str) p2] X.env = (false, eval e X.env) :: starEach [.Name ("NotARegister" : Str) p2] X.env := by rfl) : SE (X.suite b ((b, oe) :: pn)) T F W (mIsE b dd pp (isX c0 ("NotARegister" : Str)) me) (.Call (.Name "isinstance" p1) [e, .Name ("NotARegister" : Str) p2] [] pos) := by
  obtain ⟨D0, hD⟩ := Y.xg_NotARegister
  exact se_isE (Y.xc c0 C hC ht) hz hf (fun b hb => Y.xk c0 C ("NotARegister" : Str) D0 b hC hD hb) hg Y.b_isinstance hg2 hD he (by decide) hs
theorem d_isE_InvalidRow (Y : Fx X.prog X.w X.K X.mg X.base) {c0 : Str} {C : Addr} {pp : Pay} {oe : Obj} {b dd : Addr} {pn : List (Addr × Obj)} {me : M D} {e : Expr} {p1 p2 : Pos} (hC : X.mg c0 = some (.ref C)) (ht : tkX c0 = some true) (hz : Zc (.ref C) (exDict dd pp) oe) (hf : ∃ vs, oe.data = .fields vs) (he : SE (X.suite b ((b, oe) :: pn)) T F W me e) (hg : Gl X "isinstance" := by rfl) (hg2 : Gl X ("InvalidRow" : Str) := by rfl) (hs : starEach [e, .Name ("InvalidRow" : Str) p2] X.env = (false, eval e X.env) :: starEach [.Name ("InvalidRow" : Str) p2] X.env := by rfl) : SE (X.suite b ((b, oe) :: pn)) T F W (mIsE b dd pp (isX c0 ("InvalidRow" : Str)) me) (.Call (.Name "isinstance" p1) [e, .Name ("InvalidRow" : Str) p2] [] pos) := by
  obtain ⟨D0, hD⟩ := Y.xg_InvalidRow
  exact se_isE (Y.xc c0 C hC ht) hz hf (fun b hb => Y.xk c0 C ("InvalidRow" : Str) D0 b hC hD hb) hg Y.b_isinstance hg2 hD he (by decide) hs
theorem d_isE_InvalidRule (Y : Fx X.prog X.w X.K X.mg X.base) {c0 : Str} {C : Addr} {pp : Pay} {oe : Obj} {b dd : Addr} {pn : List (Addr × Obj)} {me : M D} {e : Expr} {p1 p2 : Pos} (hC : X.mg c0 = some (.ref C)) (ht : tkX c0 = some true) (hz : Zc (.ref C) (exDict dd pp) oe) (hf : ∃ vs, oe.data = .fields vs) (he : SE (X.suite b ((b, oe) :: pn)) T F W me e) (hg : Gl X "isinstance" := by rfl) (hg2 : Gl X ("InvalidRule" : Str) := by rfl) (hs : starEach [e, .Name ("InvalidRule" : Str) p2] X.env = (false, eval e X.env) :: starEach [.Name ("InvalidRule" : Str) p2] X.env := by rfl) : SE (X.suite b ((b, oe) :: pn)) T F W (mIsE b dd pp (isX c0 ("InvalidRule" : Str)) me) (.Call (.Name "isinstance" p1) [e, .Name ("InvalidRule" : Str) p2] [] pos) := by
  obtain ⟨D0, hD⟩ := Y.xg_InvalidRule
  exact se_isE (Y.xc c0 C hC ht) hz hf (fun b hb => Y.xk c0 C ("InvalidRule" : Str) D0 b hC hD hb) hg Y.b_isinstance hg2 hD he (by decide) hs
theorem d_isE_InvalidStart (Y : Fx X.prog X.w X.K X.mg X.base) {c0 : Str} {C : Addr} {pp : Pay} {oe : Obj} {b dd : Addr} {pn : List (Addr × Obj)} {me : M D} {e : Expr} {p1 p2 : Pos} (hC : X.mg c0 = some (.ref C)) (ht : tkX c0 = some true) (hz : Zc (.ref C) (exDict dd pp) oe) (hf : ∃ vs, oe.data = .fields vs) (he : SE (X.suite b ((b, oe) :: pn)) T F W me e) (hg : Gl X "isinstance" := by rfl) (hg2 : Gl X ("InvalidStart" : Str) := by rfl) (hs : starEach [e, .Name ("InvalidStart" : Str) p2] X.env = (false, eval e X.env) :: starEach [.Name ("InvalidStart" : Str) p2] X.env := by rfl) : SE (X.suite b ((b, oe) :: pn)) T F W (mIsE b dd pp (isX c0 ("InvalidStart" : Str)) me) (.Call (.Name "isinstance" p1) [e, .Name ("InvalidStart" : Str) p2] [] pos) := by
  obtain ⟨D0, hD⟩ := Y.xg_InvalidStart
  exact se_isE (Y.xc c0 C hC ht) hz hf (fun b hb => Y.xk c0 C ("InvalidStart" : Str) D0 b hC hD hb) hg Y.b_isinstance hg2 hD he (by decide) hs
theorem d_isEb_ValueError (Y : Fx X.prog X.w X.K X.mg X.base) {c0 : Str} {C : Addr} {pp : Pay} {oe : Obj} {b dd : Addr} {pn : List (Addr × Obj)} {me : M D} {e : Expr} {p1 p2 : Pos} (hC : X.mg c0 = some (.ref C)) (ht : tkX c0 = some true) (hz : Zc (.ref C) (exDict dd pp) oe) (hf : ∃ vs, oe.data = .fields vs) (he : SE (X.suite b ((b, oe) :: pn)) T F W me e) (hg : Gl X "isinstance" := by rfl) (hg2 : Gl X "ValueError" := by rfl) (hs : starEach [e, .Name "ValueError" p2] X.env = (false, eval e X.env) :: starEach [.Name "ValueError" p2] X.env := by rfl) : SE (X.suite b ((b, oe) :: pn)) T F W (mIsE b dd pp (some true) me) (.Call (.Name "isinstance" p1) [e, .Name "ValueError" p2] [] pos) :=
  se_isEb (Y.xc c0 C hC ht) hz hf (fun b hb => by cases hb; exact Y.xv c0 C hC ht) hg Y.b_isinstance hg2 Y.b_ValueError PyProof.Rows.Boot.«ValueError» he (by decide) (by decide) hs
theorem d_xf_given (Y : Fx X.prog X.w X.K X.mg X.base) {c0 : Str} {C : Addr} {pp : Pay} {oe : Obj} {b dd : Addr} {pn : List (Addr × Obj)} {me : M D} {e : Expr} (hC : X.mg c0 = some (.ref C)) (ht : tkX c0 = some true) (hz : Zc (.ref C) (exDict dd pp) oe) (hf : ∃ vs, oe.data = .fields vs) (he : SE (X.suite b ((b, oe) :: pn)) T F W me e) (hb : attributeBase e ("given" : Str) X.env (eval e X.env) = eval e X.env := by rfl) : SE (X.suite b ((b, oe) :: pn)) T F W (mXfP b dd pp ("given" : Str) me) (.Attribute e ("given" : Str) pos) :=
  se_xfP (Y.xc c0 C hC ht) (Y.xa_given c0 C hC ht) hz hf he hb
theorem d_xf_index (Y : Fx X.prog X.w X.K X.mg X.base) {c0 : Str} {C : Addr} {pp : Pay} {oe : Obj} {b dd : Addr} {pn : List (Addr × Obj)} {me : M D} {e : Expr} (hC : X.mg c0 = some (.ref C)) (ht : tkX c0 = some true) (hz : Zc (.ref C) (exDict dd pp) oe) (hf : ∃ vs, oe.data = .fields vs) (he : SE (X.suite b ((b, oe) :: pn)) T F W me e) (hb : attributeBase e ("index" : Str) X.env (eval e X.env) = eval e X.env := by rfl) : SE (X.suite b ((b, oe) :: pn)) T F W (mXfP b dd pp ("index" : Str) me) (.Attribute e ("index" : Str) pos) :=
  se_xfP (Y.xc c0 C hC ht) (Y.xa_index c0 C hC ht) hz hf he hb
theorem d_g_is_whole (Y : Fx X.prog X.w X.K X.mg X.base) (hg : Gl X ("is_whole" : Str) := by rfl) : SE X T F W (mC (.glo ("is_whole" : Str))) (.Name ("is_whole" : Str) p) := by
  obtain ⟨f, fd, _, h⟩ := Y.fd_is_whole
  exact se_glo (v := .ref f) hg h rfl (by decide)
theorem d_g_is_from (Y : Fx X.prog X.w X.K X.mg X.base) (hg : Gl X ("is_from" : Str) := by rfl) : SE X T F W (mC (.glo ("is_from" : Str))) (.Name ("is_from" : Str) p) := by
  obtain ⟨f, fd, _, h⟩ := Y.fd_is_from
  exact se_glo (v := .ref f) hg h rfl (by decide)
theorem d_g_is_below (Y : Fx X.prog X.w X.K X.mg X.base) (hg : Gl X ("is_below" : Str) := by rfl) : SE X T F W (mC (.glo ("is_below" : Str))) (.Name ("is_below" : Str) p) := by
  obtain ⟨f, fd, _, h⟩ := Y.fd_is_below
  exact se_glo (v := .ref f) hg h rfl (by decide)
theorem d_g_is_value (Y : Fx X.prog X.w X.K X.mg X.base) (hg : Gl X ("is_value" : Str) := by rfl) : SE X T F W (mC (.glo ("is_value" : Str))) (.Name ("is_value" : Str) p) := by
  obtain ⟨f, fd, _, h⟩ := Y.fd_is_value
  exact se_glo (v := .ref f) hg h rfl (by decide)
theorem d_g_wrong_at (Y : Fx X.prog X.w X.K X.mg X.base) (hg : Gl X ("wrong_at" : Str) := by rfl) : SE X T F W (mC (.glo ("wrong_at" : Str))) (.Name ("wrong_at" : Str) p) := by
  obtain ⟨f, fd, _, h⟩ := Y.fd_wrong_at
  exact se_glo (v := .ref f) hg h rfl (by decide)
theorem d_g_check_number (Y : Fx X.prog X.w X.K X.mg X.base) (hg : Gl X ("check_number" : Str) := by rfl) : SE X T F W (mC (.glo ("check_number" : Str))) (.Name ("check_number" : Str) p) := by
  obtain ⟨f, fd, _, h⟩ := Y.fd_check_number
  exact se_glo (v := .ref f) hg h rfl (by decide)
theorem d_g_check_modulus (Y : Fx X.prog X.w X.K X.mg X.base) (hg : Gl X ("check_modulus" : Str) := by rfl) : SE X T F W (mC (.glo ("check_modulus" : Str))) (.Name ("check_modulus" : Str) p) := by
  obtain ⟨f, fd, _, h⟩ := Y.fd_check_modulus
  exact se_glo (v := .ref f) hg h rfl (by decide)
theorem d_g_wrong_in_values (Y : Fx X.prog X.w X.K X.mg X.base) (hg : Gl X ("wrong_in_values" : Str) := by rfl) : SE X T F W (mC (.glo ("wrong_in_values" : Str))) (.Name ("wrong_in_values" : Str) p) := by
  obtain ⟨f, fd, _, h⟩ := Y.fd_wrong_in_values
  exact se_glo (v := .ref f) hg h rfl (by decide)
theorem d_g_check_row (Y : Fx X.prog X.w X.K X.mg X.base) (hg : Gl X ("check_row" : Str) := by rfl) : SE X T F W (mC (.glo ("check_row" : Str))) (.Name ("check_row" : Str) p) := by
  obtain ⟨f, fd, _, h⟩ := Y.fd_check_row
  exact se_glo (v := .ref f) hg h rfl (by decide)
theorem d_g_check_rule_of (Y : Fx X.prog X.w X.K X.mg X.base) (hg : Gl X ("check_rule_of" : Str) := by rfl) : SE X T F W (mC (.glo ("check_rule_of" : Str))) (.Name ("check_rule_of" : Str) p) := by
  obtain ⟨f, fd, _, h⟩ := Y.fd_check_rule_of
  exact se_glo (v := .ref f) hg h rfl (by decide)
theorem d_g_check_rule (Y : Fx X.prog X.w X.K X.mg X.base) (hg : Gl X ("check_rule" : Str) := by rfl) : SE X T F W (mC (.glo ("check_rule" : Str))) (.Name ("check_rule" : Str) p) := by
  obtain ⟨f, fd, _, h⟩ := Y.fd_check_rule
  exact se_glo (v := .ref f) hg h rfl (by decide)
theorem d_g_check_short_rule (Y : Fx X.prog X.w X.K X.mg X.base) (hg : Gl X ("check_short_rule" : Str) := by rfl) : SE X T F W (mC (.glo ("check_short_rule" : Str))) (.Name ("check_short_rule" : Str) p) := by
  obtain ⟨f, fd, _, h⟩ := Y.fd_check_short_rule
  exact se_glo (v := .ref f) hg h rfl (by decide)
theorem d_g_trimmed (Y : Fx X.prog X.w X.K X.mg X.base) (hg : Gl X ("trimmed" : Str) := by rfl) : SE X T F W (mC (.glo ("trimmed" : Str))) (.Name ("trimmed" : Str) p) := by
  obtain ⟨f, fd, _, h⟩ := Y.fd_trimmed
  exact se_glo (v := .ref f) hg h rfl (by decide)
theorem d_g_times_by (Y : Fx X.prog X.w X.K X.mg X.base) (hg : Gl X ("times_by" : Str) := by rfl) : SE X T F W (mC (.glo ("times_by" : Str))) (.Name ("times_by" : Str) p) := by
  obtain ⟨f, fd, _, h⟩ := Y.fd_times_by
  exact se_glo (v := .ref f) hg h rfl (by decide)
theorem d_g_inverse_of (Y : Fx X.prog X.w X.K X.mg X.base) (hg : Gl X ("inverse_of" : Str) := by rfl) : SE X T F W (mC (.glo ("inverse_of" : Str))) (.Name ("inverse_of" : Str) p) := by
  obtain ⟨f, fd, _, h⟩ := Y.fd_inverse_of
  exact se_glo (v := .ref f) hg h rfl (by decide)
theorem d_g_divided_by (Y : Fx X.prog X.w X.K X.mg X.base) (hg : Gl X ("divided_by" : Str) := by rfl) : SE X T F W (mC (.glo ("divided_by" : Str))) (.Name ("divided_by" : Str) p) := by
  obtain ⟨f, fd, _, h⟩ := Y.fd_divided_by
  exact se_glo (v := .ref f) hg h rfl (by decide)
theorem d_g_times_rest (Y : Fx X.prog X.w X.K X.mg X.base) (hg : Gl X ("times_rest" : Str) := by rfl) : SE X T F W (mC (.glo ("times_rest" : Str))) (.Name ("times_rest" : Str) p) := by
  obtain ⟨f, fd, _, h⟩ := Y.fd_times_rest
  exact se_glo (v := .ref f) hg h rfl (by decide)
theorem d_g_rest_power (Y : Fx X.prog X.w X.K X.mg X.base) (hg : Gl X ("rest_power" : Str) := by rfl) : SE X T F W (mC (.glo ("rest_power" : Str))) (.Name ("rest_power" : Str) p) := by
  obtain ⟨f, fd, _, h⟩ := Y.fd_rest_power
  exact se_glo (v := .ref f) hg h rfl (by decide)
theorem d_g_polynomial_by (Y : Fx X.prog X.w X.K X.mg X.base) (hg : Gl X ("polynomial_by" : Str) := by rfl) : SE X T F W (mC (.glo ("polynomial_by" : Str))) (.Name ("polynomial_by" : Str) p) := by
  obtain ⟨f, fd, _, h⟩ := Y.fd_polynomial_by
  exact se_glo (v := .ref f) hg h rfl (by decide)
theorem d_g_next_by (Y : Fx X.prog X.w X.K X.mg X.base) (hg : Gl X ("next_by" : Str) := by rfl) : SE X T F W (mC (.glo ("next_by" : Str))) (.Name ("next_by" : Str) p) := by
  obtain ⟨f, fd, _, h⟩ := Y.fd_next_by
  exact se_glo (v := .ref f) hg h rfl (by decide)
theorem d_g_broken_by (Y : Fx X.prog X.w X.K X.mg X.base) (hg : Gl X ("broken_by" : Str) := by rfl) : SE X T F W (mC (.glo ("broken_by" : Str))) (.Name ("broken_by" : Str) p) := by
  obtain ⟨f, fd, _, h⟩ := Y.fd_broken_by
  exact se_glo (v := .ref f) hg h rfl (by decide)
theorem d_g_keeps_by (Y : Fx X.prog X.w X.K X.mg X.base) (hg : Gl X ("keeps_by" : Str) := by rfl) : SE X T F W (mC (.glo ("keeps_by" : Str))) (.Name ("keeps_by" : Str) p) := by
  obtain ⟨f, fd, _, h⟩ := Y.fd_keeps_by
  exact se_glo (v := .ref f) hg h rfl (by decide)
theorem d_g_gone_by (Y : Fx X.prog X.w X.K X.mg X.base) (hg : Gl X ("gone_by" : Str) := by rfl) : SE X T F W (mC (.glo ("gone_by" : Str))) (.Name ("gone_by" : Str) p) := by
  obtain ⟨f, fd, _, h⟩ := Y.fd_gone_by
  exact se_glo (v := .ref f) hg h rfl (by decide)
theorem d_g_row_by (Y : Fx X.prog X.w X.K X.mg X.base) (hg : Gl X ("row_by" : Str) := by rfl) : SE X T F W (mC (.glo ("row_by" : Str))) (.Name ("row_by" : Str) p) := by
  obtain ⟨f, fd, _, h⟩ := Y.fd_row_by
  exact se_glo (v := .ref f) hg h rfl (by decide)
theorem d_g_value_with (Y : Fx X.prog X.w X.K X.mg X.base) (hg : Gl X ("value_with" : Str) := by rfl) : SE X T F W (mC (.glo ("value_with" : Str))) (.Name ("value_with" : Str) p) := by
  obtain ⟨f, fd, _, h⟩ := Y.fd_value_with
  exact se_glo (v := .ref f) hg h rfl (by decide)
theorem d_g_rest_at (Y : Fx X.prog X.w X.K X.mg X.base) (hg : Gl X ("rest_at" : Str) := by rfl) : SE X T F W (mC (.glo ("rest_at" : Str))) (.Name ("rest_at" : Str) p) := by
  obtain ⟨f, fd, _, h⟩ := Y.fd_rest_at
  exact se_glo (v := .ref f) hg h rfl (by decide)
theorem d_g_value_by (Y : Fx X.prog X.w X.K X.mg X.base) (hg : Gl X ("value_by" : Str) := by rfl) : SE X T F W (mC (.glo ("value_by" : Str))) (.Name ("value_by" : Str) p) := by
  obtain ⟨f, fd, _, h⟩ := Y.fd_value_by
  exact se_glo (v := .ref f) hg h rfl (by decide)
theorem d_g_state_by (Y : Fx X.prog X.w X.K X.mg X.base) (hg : Gl X ("state_by" : Str) := by rfl) : SE X T F W (mC (.glo ("state_by" : Str))) (.Name ("state_by" : Str) p) := by
  obtain ⟨f, fd, _, h⟩ := Y.fd_state_by
  exact se_glo (v := .ref f) hg h rfl (by decide)
theorem d_g_check_start (Y : Fx X.prog X.w X.K X.mg X.base) (hg : Gl X ("check_start" : Str) := by rfl) : SE X T F W (mC (.glo ("check_start" : Str))) (.Name ("check_start" : Str) p) := by
  obtain ⟨f, fd, _, h⟩ := Y.fd_check_start
  exact se_glo (v := .ref f) hg h rfl (by decide)
theorem d_g_check_register (Y : Fx X.prog X.w X.K X.mg X.base) (hg : Gl X ("check_register" : Str) := by rfl) : SE X T F W (mC (.glo ("check_register" : Str))) (.Name ("check_register" : Str) p) := by
  obtain ⟨f, fd, _, h⟩ := Y.fd_check_register
  exact se_glo (v := .ref f) hg h rfl (by decide)
theorem d_g_row_of (Y : Fx X.prog X.w X.K X.mg X.base) (hg : Gl X ("row_of" : Str) := by rfl) : SE X T F W (mC (.glo ("row_of" : Str))) (.Name ("row_of" : Str) p) := by
  obtain ⟨f, fd, _, h⟩ := Y.fd_row_of
  exact se_glo (v := .ref f) hg h rfl (by decide)
theorem d_g_value_at (Y : Fx X.prog X.w X.K X.mg X.base) (hg : Gl X ("value_at" : Str) := by rfl) : SE X T F W (mC (.glo ("value_at" : Str))) (.Name ("value_at" : Str) p) := by
  obtain ⟨f, fd, _, h⟩ := Y.fd_value_at
  exact se_glo (v := .ref f) hg h rfl (by decide)
theorem d_g_state_at (Y : Fx X.prog X.w X.K X.mg X.base) (hg : Gl X ("state_at" : Str) := by rfl) : SE X T F W (mC (.glo ("state_at" : Str))) (.Name ("state_at" : Str) p) := by
  obtain ⟨f, fd, _, h⟩ := Y.fd_state_at
  exact se_glo (v := .ref f) hg h rfl (by decide)
theorem d_g_check_told (Y : Fx X.prog X.w X.K X.mg X.base) (hg : Gl X ("check_told" : Str) := by rfl) : SE X T F W (mC (.glo ("check_told" : Str))) (.Name ("check_told" : Str) p) := by
  obtain ⟨f, fd, _, h⟩ := Y.fd_check_told
  exact se_glo (v := .ref f) hg h rfl (by decide)
theorem d_g_keeps (Y : Fx X.prog X.w X.K X.mg X.base) (hg : Gl X ("keeps" : Str) := by rfl) : SE X T F W (mC (.glo ("keeps" : Str))) (.Name ("keeps" : Str) p) := by
  obtain ⟨f, fd, _, h⟩ := Y.fd_keeps
  exact se_glo (v := .ref f) hg h rfl (by decide)
theorem d_g_gone_on (Y : Fx X.prog X.w X.K X.mg X.base) (hg : Gl X ("gone_on" : Str) := by rfl) : SE X T F W (mC (.glo ("gone_on" : Str))) (.Name ("gone_on" : Str) p) := by
  obtain ⟨f, fd, _, h⟩ := Y.fd_gone_on
  exact se_glo (v := .ref f) hg h rfl (by decide)
theorem d_g_L_bowl (Y : Fx X.prog X.w X.K X.mg X.base) (hg : Gl X ("_law_bowl" : Str) := by rfl) : SE X T F W (mC (.glo ("_law_bowl" : Str))) (.Name ("_law_bowl" : Str) p) := by
  obtain ⟨f, fd, _, h⟩ := Y.fd_L_bowl
  exact se_glo (v := .ref f) hg h rfl (by decide)
theorem d_g_L_draw (Y : Fx X.prog X.w X.K X.mg X.base) (hg : Gl X ("_law_draw" : Str) := by rfl) : SE X T F W (mC (.glo ("_law_draw" : Str))) (.Name ("_law_draw" : Str) p) := by
  obtain ⟨f, fd, _, h⟩ := Y.fd_L_draw
  exact se_glo (v := .ref f) hg h rfl (by decide)
theorem d_g_L_of (Y : Fx X.prog X.w X.K X.mg X.base) (hg : Gl X ("_law_of" : Str) := by rfl) : SE X T F W (mC (.glo ("_law_of" : Str))) (.Name ("_law_of" : Str) p) := by
  obtain ⟨f, fd, _, h⟩ := Y.fd_L_of
  exact se_glo (v := .ref f) hg h rfl (by decide)
theorem d_g_L_same (Y : Fx X.prog X.w X.K X.mg X.base) (hg : Gl X ("_law_same" : Str) := by rfl) : SE X T F W (mC (.glo ("_law_same" : Str))) (.Name ("_law_same" : Str) p) := by
  obtain ⟨f, fd, _, h⟩ := Y.fd_L_same
  exact se_glo (v := .ref f) hg h rfl (by decide)
theorem d_g_L_rule (Y : Fx X.prog X.w X.K X.mg X.base) (hg : Gl X ("_law_rule" : Str) := by rfl) : SE X T F W (mC (.glo ("_law_rule" : Str))) (.Name ("_law_rule" : Str) p) := by
  obtain ⟨f, fd, _, h⟩ := Y.fd_L_rule
  exact se_glo (v := .ref f) hg h rfl (by decide)
theorem d_g_L_go (Y : Fx X.prog X.w X.K X.mg X.base) (hg : Gl X ("_law_go" : Str) := by rfl) : SE X T F W (mC (.glo ("_law_go" : Str))) (.Name ("_law_go" : Str) p) := by
  obtain ⟨f, fd, _, h⟩ := Y.fd_L_go
  exact se_glo (v := .ref f) hg h rfl (by decide)
theorem d_g_L_register (Y : Fx X.prog X.w X.K X.mg X.base) (hg : Gl X ("_law_register" : Str) := by rfl) : SE X T F W (mC (.glo ("_law_register" : Str))) (.Name ("_law_register" : Str) p) := by
  obtain ⟨f, fd, _, h⟩ := Y.fd_L_register
  exact se_glo (v := .ref f) hg h rfl (by decide)
theorem d_g_L_first (Y : Fx X.prog X.w X.K X.mg X.base) (hg : Gl X ("_law_first" : Str) := by rfl) : SE X T F W (mC (.glo ("_law_first" : Str))) (.Name ("_law_first" : Str) p) := by
  obtain ⟨f, fd, _, h⟩ := Y.fd_L_first
  exact se_glo (v := .ref f) hg h rfl (by decide)
theorem d_g_L_made (Y : Fx X.prog X.w X.K X.mg X.base) (hg : Gl X ("_law_made" : Str) := by rfl) : SE X T F W (mC (.glo ("_law_made" : Str))) (.Name ("_law_made" : Str) p) := by
  obtain ⟨f, fd, _, h⟩ := Y.fd_L_made
  exact se_glo (v := .ref f) hg h rfl (by decide)
theorem d_g_L_odd_modulus (Y : Fx X.prog X.w X.K X.mg X.base) (hg : Gl X ("_law_odd_modulus" : Str) := by rfl) : SE X T F W (mC (.glo ("_law_odd_modulus" : Str))) (.Name ("_law_odd_modulus" : Str) p) := by
  obtain ⟨f, fd, _, h⟩ := Y.fd_L_odd_modulus
  exact se_glo (v := .ref f) hg h rfl (by decide)
theorem d_g_L_odd_values (Y : Fx X.prog X.w X.K X.mg X.base) (hg : Gl X ("_law_odd_values" : Str) := by rfl) : SE X T F W (mC (.glo ("_law_odd_values" : Str))) (.Name ("_law_odd_values" : Str) p) := by
  obtain ⟨f, fd, _, h⟩ := Y.fd_L_odd_values
  exact se_glo (v := .ref f) hg h rfl (by decide)
theorem d_g_L_kept (Y : Fx X.prog X.w X.K X.mg X.base) (hg : Gl X ("_law_kept" : Str) := by rfl) : SE X T F W (mC (.glo ("_law_kept" : Str))) (.Name ("_law_kept" : Str) p) := by
  obtain ⟨f, fd, _, h⟩ := Y.fd_L_kept
  exact se_glo (v := .ref f) hg h rfl (by decide)
theorem d_g_L_register_right (Y : Fx X.prog X.w X.K X.mg X.base) (hg : Gl X ("_law_register_right" : Str) := by rfl) : SE X T F W (mC (.glo ("_law_register_right" : Str))) (.Name ("_law_register_right" : Str) p) := by
  obtain ⟨f, fd, _, h⟩ := Y.fd_L_register_right
  exact se_glo (v := .ref f) hg h rfl (by decide)
theorem d_g_L_right (Y : Fx X.prog X.w X.K X.mg X.base) (hg : Gl X ("_law_right" : Str) := by rfl) : SE X T F W (mC (.glo ("_law_right" : Str))) (.Name ("_law_right" : Str) p) := by
  obtain ⟨f, fd, _, h⟩ := Y.fd_L_right
  exact se_glo (v := .ref f) hg h rfl (by decide)
theorem d_g_law (Y : Fx X.prog X.w X.K X.mg X.base) (hg : Gl X ("law" : Str) := by rfl) : SE X T F W (mC (.glo ("law" : Str))) (.Name ("law" : Str) p) := by
  obtain ⟨f, fd, _, h⟩ := Y.fd_law
  exact se_glo (v := .ref f) hg h rfl (by decide)
end
end K03
set_option Elab.async false
set_option linter.all false
set_option maxRecDepth 100000
set_option maxHeartbeats 4000000
namespace K03
open PySem PySem.Spec PyProof.Rows L2 DL LamX SR

section
variable {P : Program} {w : World} {K : PySem.W.Frag} {mg : Str → Option Value} {base : Heap}
/-! is_whole -/
abbrev N_is_whole : List Str := [("value" : Str)]
abbrev ps_is_whole : List Str := [("value" : Str)]
theorem sc_is_whole : FnScope N_is_whole ps_is_whole (defScope S_is_whole) := C8.fnScope_by (by decide +kernel)
theorem ok_is_whole (Y : Fx P w K mg base) : DefB P w K mg base (TT K) 1 ("is_whole" : Str) (defArgs S_is_whole) (defBody S_is_whole) (defScope S_is_whole) ps_is_whole f_is_whole := by
  obtain ⟨f, fd, Fd, hm⟩ := Y.fd_is_whole
  exact ⟨f, fd, Fd, def_ok (mb := t_is_whole) Fd sc_is_whole (fun cdv A outer s H E F hcv hr => (sss_one (ss_ret (se_and (se_isi (by rfl) Y.b_isinstance (by rfl) Y.b_int PyProof.Rows.boot_int (sb_of (se_var 0))) (se_one (se_not (se_isi (by rfl) Y.b_isinstance (by rfl) Y.b_bool PyProof.Rows.boot_bool (sb_of (se_var 0))))))))) (fun _ _ _ _ => rfl), hm⟩
/-! is_from -/
abbrev N_is_from : List Str := [("value" : Str), ("least" : Str), ("most" : Str)]
abbrev ps_is_from : List Str := [("value" : Str), ("least" : Str), ("most" : Str)]
theorem sc_is_from : FnScope N_is_from ps_is_from (defScope S_is_from) := C8.fnScope_by (by decide +kernel)
theorem ok_is_from (Y : Fx P w K mg base) : DefB P w K mg base (TT K) 2 ("is_from" : Str) (defArgs S_is_from) (defBody S_is_from) (defScope S_is_from) ps_is_from f_is_from := by
  obtain ⟨f, fd, Fd, hm⟩ := Y.fd_is_from
  exact ⟨f, fd, Fd, def_ok (mb := t_is_from) Fd sc_is_from (fun cdv A outer s H E F hcv hr => (sss_one (ss_ret (se_and (se_callF ((ok_is_whole Y).cal 1 [] [0] (fun _ _ _ _ _ _ us ws h1 h2 => match us, ws, h1, h2 with | [_], [], _, _ => rfl)) (hr.mono (by decide)) (takes_of rfl rfl rfl rfl) (by rfl) (sc_pos (sa_cons (se_var 0) sa_nil))) (se_one (se_chain op_le op_le od_cmp od_cmp (sb_of (se_var 1)) (sb_of (se_var 0)) (sb_of (se_var 2)))))))) (fun _ _ _ _ => rfl), hm⟩
/-! is_below -/
abbrev N_is_below : List Str := [("value" : Str), ("many" : Str)]
abbrev ps_is_below : List Str := [("value" : Str), ("many" : Str)]
theorem sc_is_below : FnScope N_is_below ps_is_below (defScope S_is_below) := C8.fnScope_by (by decide +kernel)
theorem ok_is_below (Y : Fx P w K mg base) : DefB P w K mg base (TT K) 3 ("is_below" : Str) (defArgs S_is_below) (defBody S_is_below) (defScope S_is_below) ps_is_below f_is_below := by
  obtain ⟨f, fd, Fd, hm⟩ := Y.fd_is_below
  exact ⟨f, fd, Fd, def_ok (mb := t_is_below) Fd sc_is_below (fun cdv A outer s H E F hcv hr => (sss_one (ss_ret (se_callF ((ok_is_from Y).cal 3 [] [0, 1, 2] (fun _ _ _ _ _ _ us ws h1 h2 => match us, ws, h1, h2 with | [_, _, _], [], _, _ => rfl)) (hr.mono (by decide)) (takes_of rfl rfl rfl rfl) (by rfl) (sc_pos (sa_cons (se_var 0) (sa_cons se_int (sa_cons (se_op op_sub od_sub (sb_of (se_var 1)) (sb_of se_int)) sa_nil)))))))) (fun _ _ _ _ => rfl), hm⟩
/-! is_value -/
abbrev N_is_value : List Str := [("modulus" : Str), ("value" : Str)]
abbrev ps_is_value : List Str := [("modulus" : Str), ("value" : Str)]
theorem sc_is_value : FnScope N_is_value ps_is_value (defScope S_is_value) := C8.fnScope_by (by decide +kernel)
theorem ok_is_value (Y : Fx P w K mg base) : DefB P w K mg base (TT K) 4 ("is_value" : Str) (defArgs S_is_value) (defBody S_is_value) (defScope S_is_value) ps_is_value f_is_value := by
  obtain ⟨f, fd, Fd, hm⟩ := Y.fd_is_value
  exact ⟨f, fd, Fd, def_ok (mb := t_is_value) Fd sc_is_value (fun cdv A outer s H E F hcv hr => (sss_one (ss_ret (se_callF ((ok_is_below Y).cal 2 [] [0, 1] (fun _ _ _ _ _ _ us ws h1 h2 => match us, ws, h1, h2 with | [_, _], [], _, _ => rfl)) (hr.mono (by decide)) (takes_of rfl rfl rfl rfl) (by rfl) (sc_pos (sa_cons (se_var 1) (sa_cons (se_var 0) sa_nil))))))) (fun _ _ _ _ => rfl), hm⟩
/-! wrong_at -/
abbrev N_wrong_at : List Str := [("value" : Str), ("least" : Str), ("most" : Str), ("is_right" : Str), ("index" : Str), ("each" : Str)]
abbrev ps_wrong_at : List Str := [("value" : Str), ("least" : Str), ("most" : Str), ("is_right" : Str)]
theorem sc_wrong_at : FnScope N_wrong_at ps_wrong_at (defScope S_wrong_at) := C8.fnScope_by (by decide +kernel)
theorem okl_wrong_at (Y : Fx P w K mg base) : DefL P w K mg base (TT K) 0 ("wrong_at" : Str) (defArgs S_wrong_at) (defBody S_wrong_at) (defScope S_wrong_at) N_wrong_at ps_wrong_at 3 2 ("is_right" : Str) f_wrong_at where
  ex := Y.fd_wrong_at
  sc := sc_wrong_at
  pl := rfl
  ai := rfl
  av := by first | exact Or.inl rfl | exact Or.inr (Or.inl rfl)
  ad := by decide
  ac := by decide
  bd := fun _ _ _ _ _ _ us h => match us, h with | [_, _, _, _], _ => rfl
  run := fun g cdv A outer s H E F f act hr hact => ⟨t_wrong_at f act, (sss_cons (ss_if (st_w (sw_or (st_not (st_val (se_isi (by rfl) Y.b_isinstance (by rfl) Y.b_tuple PyProof.Rows.boot_tuple (sb_of (se_var 0))))) (sw_or1 (st_cmp op_lt od_cmp (sb_of (se_callB call_len cd_len (by rfl) Y.b_len boot_len (sab_cons (sb_of (se_var 0)) sab_nil))) (sb_of (se_var 1)) (nomark _))))) (sss_one (ss_ret (se_new (sn_lst (sa_cons se_non sa_nil))))) sss_nil) (sss_cons (ss_for (passes_of (K := fun e s'' => L2.CX P w outer H s E e s'') rfl) rfl (si_enum (by rfl) Y.b_enumerate (sa_cons (se_var 0) sa_nil)) (sg_tup rfl (sgs_cons (sg_name 4 sc_wrong_at.nd rfl (Or.inl rfl)) (sgs_cons (sg_name 5 sc_wrong_at.nd rfl (Or.inl rfl)) sgs_nil))) (sss_one (ss_if (st_w (sw_or (st_cmp op_ge od_cmp (sb_of (se_var 4)) (sb_of (se_var 2)) (nomark _)) (sw_or1 (st_not (st_val (hact [] _ _ (takes_of rfl rfl rfl rfl) _ _ _ _ (scf_cons (sa_cons (se_slice (sb_of (se_var 0)) so_none (so_some (sb_of (se_var 4)))) (sa_cons (se_var 5) sa_nil))))))))) (sss_one (ss_ret (se_new (sn_lst (sa_cons (se_var 4) sa_nil))))) sss_nil))) (sss_one (ss_ret (se_new (sn_lst sa_nil)))))), fun ds S hl hn => eq_wrong_at f act ds S hl hn⟩
/-! check_number -/
abbrev N_check_number : List Str := [("number" : Str), ("least" : Str), ("most" : Str)]
abbrev ps_check_number : List Str := [("number" : Str), ("least" : Str), ("most" : Str)]
theorem sc_check_number : FnScope N_check_number ps_check_number (defScope S_check_number) := C8.fnScope_by (by decide +kernel)
theorem ok_check_number (Y : Fx P w K mg base) : DefB P w K mg base (TT K) 3 ("check_number" : Str) (defArgs S_check_number) (defBody S_check_number) (defScope S_check_number) ps_check_number f_check_number := by
  obtain ⟨f, fd, Fd, hm⟩ := Y.fd_check_number
  exact ⟨f, fd, Fd, def_ok (mb := t_check_number) Fd sc_check_number (fun cdv A outer s H E F hcv hr => (sss_one (ss_if (st_not (st_val (se_callF ((ok_is_from Y).cal 3 [] [0, 1, 2] (fun _ _ _ _ _ _ us ws h1 h2 => match us, ws, h1, h2 with | [_, _, _], [], _, _ => rfl)) (hr.mono (by decide)) (takes_of rfl rfl rfl rfl) (by rfl) (sc_pos (sa_cons (se_var 0) (sa_cons (se_var 1) (sa_cons (se_var 2) sa_nil))))))) (sss_one (d_r_InvalidNumber Y rfl (takes_of rfl rfl rfl rfl) hr (by rfl) (se_var 0))) sss_nil))) (fun _ _ _ _ => rfl), hm⟩
/-! check_modulus -/
abbrev N_check_modulus : List Str := [("modulus" : Str)]
abbrev ps_check_modulus : List Str := [("modulus" : Str)]
theorem sc_check_modulus : FnScope N_check_modulus ps_check_modulus (defScope S_check_modulus) := C8.fnScope_by (by decide +kernel)
theorem ok_check_modulus (Y : Fx P w K mg base) : DefB P w K mg base (TT K) 3 ("check_modulus" : Str) (defArgs S_check_modulus) (defBody S_check_modulus) (defScope S_check_modulus) ps_check_modulus f_check_modulus := by
  obtain ⟨f, fd, Fd, hm⟩ := Y.fd_check_modulus
  exact ⟨f, fd, Fd, def_ok (mb := t_check_modulus) Fd sc_check_modulus (fun cdv A outer s H E F hcv hr => (sss_one (ss_if (st_w (sw_or (st_not (st_val (se_callF ((ok_is_from Y).cal 3 [] [0, 1, 2] (fun _ _ _ _ _ _ us ws h1 h2 => match us, ws, h1, h2 with | [_, _, _], [], _, _ => rfl)) (hr.mono (by decide)) (takes_of rfl rfl rfl rfl) (by rfl) (sc_pos (sa_cons (se_var 0) (sa_cons (se_ix ix_any od_ix (sb_of (d_c_MODULI Y)) (sb_of se_int) (fun _ _ => rfl)) (sa_cons (se_ix ix_any od_ix (sb_of (d_c_MODULI Y)) (sb_of (se_un un_neg ud_neg (sb_of se_int))) (fun _ _ => rfl)) sa_nil))))))) (sw_or1 (st_cmp op_notIn_seq od_in (sb_of (se_var 0)) (sb_of (d_c_MODULI Y)) (by rfl))))) (sss_one (d_r_InvalidNumber Y rfl (takes_of rfl rfl rfl rfl) hr (by rfl) (se_var 0))) sss_nil))) (fun _ _ _ _ => rfl), hm⟩
/-! wrong_in_values -/
abbrev N_wrong_in_values : List Str := [("modulus" : Str), ("most" : Str), ("value" : Str), ("ahead" : Str), ("each" : Str)]
abbrev ps_wrong_in_values : List Str := [("modulus" : Str), ("most" : Str), ("value" : Str)]
theorem sc_wrong_in_values : FnScope N_wrong_in_values ps_wrong_in_values (defScope S_wrong_in_values) := C8.fnScope_by (by decide +kernel)
theorem ok_wrong_in_values (Y : Fx P w K mg base) : DefB P w K mg base (TT K) 7 ("wrong_in_values" : Str) (defArgs S_wrong_in_values) (defBody S_wrong_in_values) (defScope S_wrong_in_values) ps_wrong_in_values f_wrong_in_values := by
  obtain ⟨f, fd, Fd, hm⟩ := Y.fd_wrong_in_values
  exact ⟨f, fd, Fd, def_ok (mb := t_wrong_in_values) Fd sc_wrong_in_values (fun cdv A outer s H E F hcv hr => by
    obtain ⟨c, hcd0, tb⟩ := Y.tab_wrong_in_values f cdv hm hcv
    subst hcd0
    have tun := Y.tun_wrong_in_values
    exact (sss_one (ss_ret (se_lam (ps := [("ahead" : Str), ("each" : Str)]) (okl_wrong_at Y) (hr.mono (by decide)) (kb := 4) (hr.mono (by decide)) (takes_of rfl rfl rfl rfl) (by rfl) (by exact lamP_by (sc := defScope S_wrong_in_values) (by decide +kernel)) sc_wrong_in_values.nd (by decide) (fun j p h => match j, h with | 0, h => ⟨3, rfl, by cases h; rfl⟩ | 1, h => ⟨4, rfl, by cases h; rfl⟩ | j + 2, h => by cases h) rfl tb rfl (tmem_wrong_in_values K) tun rfl (fun _ _ _ _ _ us h => match us, h with | [_, _], _ => rfl) (fun A outer s H E f c' F hrl => (se_callF ((ok_is_value Y).cal 2 [] [0, 1] (fun _ _ _ _ _ _ us ws h1 h2 => match us, ws, h1, h2 with | [_, _], [], _, _ => rfl)) (hrl.mono (by decide)) (takes_of rfl rfl rfl rfl) (by rfl) (sc_pos (sa_cons (se_var 0) (sa_cons (se_var 4) sa_nil))))) (sat_cons (se_var 2) (sat_cons se_int (sat_cons (se_var 1) sat_nil))) rfl)))) (fun _ _ _ _ => rfl), hm⟩
/-! check_row -/
abbrev N_check_row : List Str := [("modulus" : Str), ("row" : Str), ("index" : Str)]
abbrev ps_check_row : List Str := [("modulus" : Str), ("row" : Str)]
theorem sc_check_row : FnScope N_check_row ps_check_row (defScope S_check_row) := C8.fnScope_by (by decide +kernel)
theorem ok_check_row (Y : Fx P w K mg base) : DefB P w K mg base (TT K) 8 ("check_row" : Str) (defArgs S_check_row) (defBody S_check_row) (defScope S_check_row) ps_check_row f_check_row := by
  obtain ⟨f, fd, Fd, hm⟩ := Y.fd_check_row
  exact ⟨f, fd, Fd, def_ok (mb := t_check_row) Fd sc_check_row (fun cdv A outer s H E F hcv hr => (sss_one (ss_for (passes_of (K := fun e s'' => L2.CX P w outer H s E e s'') rfl) rfl (si_val (se_callF ((ok_wrong_in_values Y).cal 3 [] [0, 1, 2] (fun _ _ _ _ _ _ us ws h1 h2 => match us, ws, h1, h2 with | [_, _, _], [], _, _ => rfl)) (hr.mono (by decide)) (takes_of rfl rfl rfl rfl) (by rfl) (sc_pos (sa_cons (se_var 0) (sa_cons (d_c_MOST_VALUES Y) (sa_cons (se_var 1) sa_nil)))))) (sg_name 2 sc_check_row.nd rfl (Or.inl rfl)) (sss_one (d_r_InvalidRow Y rfl (takes_of rfl rfl rfl rfl) hr (by rfl) (se_var 2)))))) (fun _ _ _ _ => rfl), hm⟩
/-! check_rule_of -/
abbrev N_check_rule_of : List Str := [("modulus" : Str), ("rule" : Str), ("most" : Str), ("index" : Str)]
abbrev ps_check_rule_of : List Str := [("modulus" : Str), ("rule" : Str), ("most" : Str)]
theorem sc_check_rule_of : FnScope N_check_rule_of ps_check_rule_of (defScope S_check_rule_of) := C8.fnScope_by (by decide +kernel)
theorem ok_check_rule_of (Y : Fx P w K mg base) : DefB P w K mg base (TT K) 8 ("check_rule_of" : Str) (defArgs S_check_rule_of) (defBody S_check_rule_of) (defScope S_check_rule_of) ps_check_rule_of f_check_rule_of := by
  obtain ⟨f, fd, Fd, hm⟩ := Y.fd_check_rule_of
  exact ⟨f, fd, Fd, def_ok (mb := t_check_rule_of) Fd sc_check_rule_of (fun cdv A outer s H E F hcv hr => (sss_one (ss_for (passes_of (K := fun e s'' => L2.CX P w outer H s E e s'') rfl) rfl (si_val (se_callF ((ok_wrong_in_values Y).cal 3 [] [0, 1, 2] (fun _ _ _ _ _ _ us ws h1 h2 => match us, ws, h1, h2 with | [_, _, _], [], _, _ => rfl)) (hr.mono (by decide)) (takes_of rfl rfl rfl rfl) (by rfl) (sc_pos (sa_cons (se_var 0) (sa_cons (se_var 2) (sa_cons (se_var 1) sa_nil)))))) (sg_name 3 sc_check_rule_of.nd rfl (Or.inl rfl)) (sss_one (d_r_InvalidRule Y rfl (takes_of rfl rfl rfl rfl) hr (by rfl) (se_var 3)))))) (fun _ _ _ _ => rfl), hm⟩
/-! check_rule -/
abbrev N_check_rule : List Str := [("modulus" : Str), ("rule" : Str)]
abbrev ps_check_rule : List Str := [("modulus" : Str), ("rule" : Str)]
theorem sc_check_rule : FnScope N_check_rule ps_check_rule (defScope S_check_rule) := C8.fnScope_by (by decide +kernel)
theorem ok_check_rule (Y : Fx P w K mg base) : DefB P w K mg base (TT K) 9 ("check_rule" : Str) (defArgs S_check_rule) (defBody S_check_rule) (defScope S_check_rule) ps_check_rule f_check_rule := by
  obtain ⟨f, fd, Fd, hm⟩ := Y.fd_check_rule
  exact ⟨f, fd, Fd, def_ok (mb := t_check_rule) Fd sc_check_rule (fun cdv A outer s H E F hcv hr => (sss_one (ss_expr (se_callF ((ok_check_rule_of Y).cal 3 [] [0, 1, 2] (fun _ _ _ _ _ _ us ws h1 h2 => match us, ws, h1, h2 with | [_, _, _], [], _, _ => rfl)) (hr.mono (by decide)) (takes_of rfl rfl rfl rfl) (by rfl) (sc_pos (sa_cons (se_var 0) (sa_cons (se_var 1) (sa_cons (d_c_MOST_VALUES Y) sa_nil)))))))) (fun _ _ _ _ => rfl), hm⟩
/-! check_short_rule -/
abbrev N_check_short_rule : List Str := [("modulus" : Str), ("rule" : Str)]
abbrev ps_check_short_rule : List Str := [("modulus" : Str), ("rule" : Str)]
theorem sc_check_short_rule : FnScope N_check_short_rule ps_check_short_rule (defScope S_check_short_rule) := C8.fnScope_by (by decide +kernel)
theorem ok_check_short_rule (Y : Fx P w K mg base) : DefB P w K mg base (TT K) 9 ("check_short_rule" : Str) (defArgs S_check_short_rule) (defBody S_check_short_rule) (defScope S_check_short_rule) ps_check_short_rule f_check_short_rule := by
  obtain ⟨f, fd, Fd, hm⟩ := Y.fd_check_short_rule
  exact ⟨f, fd, Fd, def_ok (mb := t_check_short_rule) Fd sc_check_short_rule (fun cdv A outer s H E F hcv hr => (sss_one (ss_expr (se_callF ((ok_check_rule_of Y).cal 3 [] [0, 1, 2] (fun _ _ _ _ _ _ us ws h1 h2 => match us, ws, h1, h2 with | [_, _, _], [], _, _ => rfl)) (hr.mono (by decide)) (takes_of rfl rfl rfl rfl) (by rfl) (sc_pos (sa_cons (se_var 0) (sa_cons (se_var 1) (sa_cons (d_c_MOST_TAPS Y) sa_nil)))))))) (fun _ _ _ _ => rfl), hm⟩
/-! trimmed -/
abbrev N_trimmed : List Str := [("values" : Str), ("many" : Str)]
abbrev ps_trimmed : List Str := [("values" : Str)]
theorem sc_trimmed : FnScope N_trimmed ps_trimmed (defScope S_trimmed) := C8.fnScope_by (by decide +kernel)
theorem ok_trimmed (Y : Fx P w K mg base) : DefB P w K mg base (TT K) 1 ("trimmed" : Str) (defArgs S_trimmed) (defBody S_trimmed) (defScope S_trimmed) ps_trimmed f_trimmed := by
  obtain ⟨f, fd, Fd, hm⟩ := Y.fd_trimmed
  exact ⟨f, fd, Fd, def_ok (mb := t_trimmed) Fd sc_trimmed (fun cdv A outer s H E F hcv hr => (sss_cons (ss_set 1 sc_trimmed.nd rfl (Or.inl rfl) (se_callB call_len cd_len (by rfl) Y.b_len boot_len (sab_cons (sb_of (se_var 0)) sab_nil))) (sss_cons (ss_while 100000 (passes_of (K := fun e s'' => L2.CX P w outer H s E e s'') rfl) (st_w (sw_and (st_cmp op_gt od_cmp (sb_of (se_var 1)) (sb_of se_int) (nomark _)) (sw_and1 (st_cmp (op_eqA hr.units) od_eq (sb_of (se_ix ix_any od_ix (sb_of (se_var 0)) (sb_of (se_op op_sub od_sub (sb_of (se_var 1)) (sb_of se_int))) (fun _ _ => rfl))) (sb_of se_int) (nomark _))))) (sss_one (ss_set 1 sc_trimmed.nd rfl (Or.inl rfl) (se_op op_sub od_sub (sb_of (se_var 1)) (sb_of se_int))))) (sss_one (ss_ret (se_callTy call_tuple_of cd_tuple (by rfl) Y.b_tuple PyProof.Rows.boot_tuple (sab_cons (sb_of (se_slice (sb_of (se_var 0)) so_none (so_some (sb_of (se_var 1))))) sab_nil))))))) (fun _ _ _ _ => rfl), hm⟩
/-! times_by -/
abbrev N_times_by : List Str := [("modulus" : Str), ("poly" : Str), ("poly2" : Str), ("found" : Str), ("_" : Str), ("power" : Str), ("value" : Str), ("power2" : Str), ("value2" : Str)]
abbrev ps_times_by : List Str := [("modulus" : Str), ("poly" : Str), ("poly2" : Str)]
theorem sc_times_by : FnScope N_times_by ps_times_by (defScope S_times_by) := C8.fnScope_by (by decide +kernel)
theorem ok_times_by (Y : Fx P w K mg base) : DefB P w K mg base (TT K) 2 ("times_by" : Str) (defArgs S_times_by) (defBody S_times_by) (defScope S_times_by) ps_times_by f_times_by := by
  obtain ⟨f, fd, Fd, hm⟩ := Y.fd_times_by
  exact ⟨f, fd, Fd, def_ok (mb := t_times_by) Fd sc_times_by (fun cdv A outer s H E F hcv hr => (sss_cons (ss_setLcOwn 3 [(("_" : Str), 4)] rfl sc_times_by.nd rfl rfl (by rfl) (si_range1 (by rfl) Y.b_range (sab_cons (sb_of (se_op op_addA od_add (sb_of (se_callB call_len cd_len (by rfl) Y.b_len boot_len (sab_cons (sb_of (se_var 1)) sab_nil))) (sb_of (se_callB call_len cd_len (by rfl) Y.b_len boot_len (sab_cons (sb_of (se_var 2)) sab_nil))))) sab_nil)) (by exact blkOk_by (N := N_times_by) (sc := defScope S_times_by) (by decide +kernel)) (lt_name (by decide)) (fun s H C cl fp => pg_name (i := 4) sc_times_by.nd rfl (Or.inl rfl)) (fun s H C cl fp => sts_nil) (fun s H C cl fp => se_int)) (sss_cons (ss_for (passes_of (K := fun e s'' => L2.CX P w outer H s E e s'') rfl) rfl (si_enum (by rfl) Y.b_enumerate (sa_cons (se_var 1) sa_nil)) (sg_tup rfl (sgs_cons (sg_name 5 sc_times_by.nd rfl (Or.inl rfl)) (sgs_cons (sg_name 6 sc_times_by.nd rfl (Or.inl rfl)) sgs_nil))) (sss_one (ss_for (passes_of (K := fun e s'' => L2.CX P w outer H s E e s'') rfl) rfl (si_enum (by rfl) Y.b_enumerate (sa_cons (se_var 2) sa_nil)) (sg_tup rfl (sgs_cons (sg_name 7 sc_times_by.nd rfl (Or.inl rfl)) (sgs_cons (sg_name 8 sc_times_by.nd rfl (Or.inl rfl)) sgs_nil))) (sss_one (ss_asg (se_op op_mod od_mod (sb_of (se_op op_addA od_add (sb_of (se_ix ix_any od_ix (sb_own 3) (sb_of (se_op op_addA od_add (sb_of (se_var 5)) (sb_of (se_var 7)))) (fun _ _ => rfl))) (sb_of (se_op op_mulA od_mul (sb_of (se_var 6)) (sb_of (se_var 8)))))) (sb_of (se_var 0))) (sg_subOwn 3 rfl (Or.inl rfl) (sb_of (se_op op_addA od_add (sb_of (se_var 5)) (sb_of (se_var 7)))))))))) (sss_freeze 3 (sss_one (ss_ret (se_callF ((ok_trimmed Y).cal 1 [] [0] (fun _ _ _ _ _ _ us ws h1 h2 => match us, ws, h1, h2 with | [_], [], _, _ => rfl)) (hr.mono (by decide)) (takes_of rfl rfl rfl rfl) (by rfl) (sc_pos (sa_cons (se_var 3) sa_nil))))))))) (fun _ _ _ _ => rfl), hm⟩
/-! inverse_of -/
abbrev N_inverse_of : List Str := [("modulus" : Str), ("value" : Str), ("found" : Str), ("_" : Str)]
abbrev ps_inverse_of : List Str := [("modulus" : Str), ("value" : Str)]
theorem sc_inverse_of : FnScope N_inverse_of ps_inverse_of (defScope S_inverse_of) := C8.fnScope_by (by decide +kernel)
theorem ok_inverse_of (Y : Fx P w K mg base) : DefB P w K mg base (TT K) 1 ("inverse_of" : Str) (defArgs S_inverse_of) (defBody S_inverse_of) (defScope S_inverse_of) ps_inverse_of f_inverse_of := by
  obtain ⟨f, fd, Fd, hm⟩ := Y.fd_inverse_of
  exact ⟨f, fd, Fd, def_ok (mb := t_inverse_of) Fd sc_inverse_of (fun cdv A outer s H E F hcv hr => (sss_cons (ss_set 2 sc_inverse_of.nd rfl (Or.inl rfl) se_int) (sss_cons (ss_for (passes_of (K := fun e s'' => L2.CX P w outer H s E e s'') rfl) rfl (si_range1 (by rfl) Y.b_range (sab_cons (sb_of (se_op op_sub od_sub (sb_of (se_var 0)) (sb_of (d_c_TWO Y)))) sab_nil)) (sg_name 3 sc_inverse_of.nd rfl (Or.inl rfl)) (sss_one (ss_set 2 sc_inverse_of.nd rfl (Or.inl rfl) (se_op op_mod od_mod (sb_of (se_op op_mulA od_mul (sb_of (se_var 2)) (sb_of (se_var 1)))) (sb_of (se_var 0)))))) (sss_one (ss_ret (se_var 2)))))) (fun _ _ _ _ => rfl), hm⟩
/-! divided_by -/
abbrev N_divided_by : List Str := [("modulus" : Str), ("poly" : Str), ("divisor" : Str), ("rest" : Str), ("quotient" : Str), ("_" : Str), ("inverse" : Str), ("power" : Str), ("often" : Str), ("at" : Str), ("value" : Str)]
abbrev ps_divided_by : List Str := [("modulus" : Str), ("poly" : Str), ("divisor" : Str)]
theorem sc_divided_by : FnScope N_divided_by ps_divided_by (defScope S_divided_by) := C8.fnScope_by (by decide +kernel)
theorem ok_divided_by (Y : Fx P w K mg base) : DefB P w K mg base (TT K) 2 ("divided_by" : Str) (defArgs S_divided_by) (defBody S_divided_by) (defScope S_divided_by) ps_divided_by f_divided_by := by
  obtain ⟨f, fd, Fd, hm⟩ := Y.fd_divided_by
  exact ⟨f, fd, Fd, def_ok (mb := t_divided_by) Fd sc_divided_by (fun cdv A outer s H E F hcv hr => (sss_cons (ss_parM 3 4 rfl sc_divided_by.nd rfl rfl (by decide) rfl rfl (sm_own (sn_list (by rfl) Y.b_list (sb_of (se_var 1))) (sm_own (sn_lc [(("_" : Str), 5)] rfl sc_divided_by.nd (si_range1 (by rfl) Y.b_range (sab_cons (sb_of (se_callB call_len cd_len (by rfl) Y.b_len boot_len (sab_cons (sb_of (se_var 1)) sab_nil))) sab_nil)) (by exact blkOk_by (N := N_divided_by) (sc := defScope S_divided_by) (by decide +kernel)) (lt_name (by decide)) (fun s H C cl fp => pg_name (i := 5) sc_divided_by.nd rfl (Or.inl rfl)) (fun s H C cl fp => sts_nil) (fun s H C cl fp => se_int)) sm_nil))) (sss_cons (ss_set 6 sc_divided_by.nd rfl (Or.inl rfl) (se_callF ((ok_inverse_of Y).cal 2 [] [0, 1] (fun _ _ _ _ _ _ us ws h1 h2 => match us, ws, h1, h2 with | [_, _], [], _, _ => rfl)) (hr.mono (by decide)) (takes_of rfl rfl rfl rfl) (by rfl) (sc_pos (sa_cons (se_var 0) (sa_cons (se_ix ix_any od_ix (sb_of (se_var 2)) (sb_of (se_un un_neg ud_neg (sb_of se_int))) (fun _ _ => rfl)) sa_nil))))) (sss_cons (ss_for (passes_of (K := fun e s'' => L2.CX P w outer H s E e s'') rfl) rfl (si_val (se_new (sn_rev (sb_of (se_new (sn_rg1 rfl (by rfl) Y.b_list (by rfl) Y.b_range (sb_of (se_op op_addA od_add (sb_of (se_op op_sub od_sub (sb_of (se_callB call_len cd_len (by rfl) Y.b_len boot_len (sab_cons (sb_of (se_var 1)) sab_nil))) (sb_of (se_callB call_len cd_len (by rfl) Y.b_len boot_len (sab_cons (sb_of (se_var 2)) sab_nil))))) (sb_of se_int))))))))) (sg_name 7 sc_divided_by.nd rfl (Or.inl rfl)) (sss_cons (ss_set 8 sc_divided_by.nd rfl (Or.inl rfl) (se_op op_mod od_mod (sb_of (se_op op_mulA od_mul (sb_of (se_ix ix_any od_ix (sb_own 3) (sb_of (se_op op_sub od_sub (sb_of (se_op op_addA od_add (sb_of (se_var 7)) (sb_of (se_callB call_len cd_len (by rfl) Y.b_len boot_len (sab_cons (sb_of (se_var 2)) sab_nil))))) (sb_of se_int))) (fun _ _ => rfl))) (sb_of (se_var 6)))) (sb_of (se_var 0)))) (sss_cons (ss_asg (se_var 8) (sg_subOwn 4 rfl (Or.inl rfl) (sb_of (se_var 7)))) (sss_one (ss_for (passes_of (K := fun e s'' => L2.CX P w outer H s E e s'') rfl) rfl (si_enum (by rfl) Y.b_enumerate (sa_cons (se_var 2) sa_nil)) (sg_tup rfl (sgs_cons (sg_name 9 sc_divided_by.nd rfl (Or.inl rfl)) (sgs_cons (sg_name 10 sc_divided_by.nd rfl (Or.inl rfl)) sgs_nil))) (sss_one (ss_asg (se_op op_mod od_mod (sb_of (se_op op_sub od_sub (sb_of (se_ix ix_any od_ix (sb_own 3) (sb_of (se_op op_addA od_add (sb_of (se_var 7)) (sb_of (se_var 9)))) (fun _ _ => rfl))) (sb_of (se_op op_mulA od_mul (sb_of (se_var 8)) (sb_of (se_var 10)))))) (sb_of (se_var 0))) (sg_subOwn 3 rfl (Or.inl rfl) (sb_of (se_op op_addA od_add (sb_of (se_var 7)) (sb_of (se_var 9)))))))))))) (sss_freeze 4 (sss_freeze 3 (sss_one (ss_ret (se_tup (sa_cons (se_callF ((ok_trimmed Y).cal 1 [] [0] (fun _ _ _ _ _ _ us ws h1 h2 => match us, ws, h1, h2 with | [_], [], _, _ => rfl)) (hr.mono (by decide)) (takes_of rfl rfl rfl rfl) (by rfl) (sc_pos (sa_cons (se_var 4) sa_nil))) (sa_cons (se_callF ((ok_trimmed Y).cal 1 [] [0] (fun _ _ _ _ _ _ us ws h1 h2 => match us, ws, h1, h2 with | [_], [], _, _ => rfl)) (hr.mono (by decide)) (takes_of rfl rfl rfl rfl) (by rfl) (sc_pos (sa_cons (se_var 3) sa_nil))) sa_nil))))))))))) (fun _ _ _ _ => rfl), hm⟩
end
end K03
set_option Elab.async false
set_option linter.all false
set_option maxRecDepth 100000
set_option maxHeartbeats 4000000
namespace K03
open PySem PySem.Spec PyProof.Rows L2 DL LamX SR

section
variable {P : Program} {w : World} {K : PySem.W.Frag} {mg : Str → Option Value} {base : Heap}
/-! times_rest -/
abbrev N_times_rest : List Str := [("modulus" : Str), ("poly" : Str), ("poly2" : Str), ("divisor" : Str)]
abbrev ps_times_rest : List Str := [("modulus" : Str), ("poly" : Str), ("poly2" : Str), ("divisor" : Str)]
theorem sc_times_rest : FnScope N_times_rest ps_times_rest (defScope S_times_rest) := C8.fnScope_by (by decide +kernel)
theorem ok_times_rest (Y : Fx P w K mg base) : DefB P w K mg base (TT K) 3 ("times_rest" : Str) (defArgs S_times_rest) (defBody S_times_rest) (defScope S_times_rest) ps_times_rest f_times_rest := by
  obtain ⟨f, fd, Fd, hm⟩ := Y.fd_times_rest
  exact ⟨f, fd, Fd, def_ok (mb := t_times_rest) Fd sc_times_rest (fun cdv A outer s H E F hcv hr => (sss_one (ss_ret (se_ix ix_any od_ix (sb_of (se_callF ((ok_divided_by Y).cal 3 [] [0, 1, 2] (fun _ _ _ _ _ _ us ws h1 h2 => match us, ws, h1, h2 with | [_, _, _], [], _, _ => rfl)) (hr.mono (by decide)) (takes_of rfl rfl rfl rfl) (by rfl) (sc_pos (sa_cons (se_var 0) (sa_cons (se_callF ((ok_times_by Y).cal 3 [] [0, 1, 2] (fun _ _ _ _ _ _ us ws h1 h2 => match us, ws, h1, h2 with | [_, _, _], [], _, _ => rfl)) (hr.mono (by decide)) (takes_of rfl rfl rfl rfl) (by rfl) (sc_pos (sa_cons (se_var 0) (sa_cons (se_var 1) (sa_cons (se_var 2) sa_nil))))) (sa_cons (se_var 3) sa_nil)))))) (sb_of se_int) (fun _ _ => rfl))))) (fun _ _ _ _ => rfl), hm⟩
/-! rest_power -/
abbrev N_rest_power : List Str := [("modulus" : Str), ("poly" : Str), ("number" : Str), ("divisor" : Str), ("found" : Str), ("power" : Str)]
abbrev ps_rest_power : List Str := [("modulus" : Str), ("poly" : Str), ("number" : Str), ("divisor" : Str)]
theorem sc_rest_power : FnScope N_rest_power ps_rest_power (defScope S_rest_power) := C8.fnScope_by (by decide +kernel)
theorem ok_rest_power (Y : Fx P w K mg base) : DefB P w K mg base (TT K) 4 ("rest_power" : Str) (defArgs S_rest_power) (defBody S_rest_power) (defScope S_rest_power) ps_rest_power f_rest_power := by
  obtain ⟨f, fd, Fd, hm⟩ := Y.fd_rest_power
  exact ⟨f, fd, Fd, def_ok (mb := t_rest_power) Fd sc_rest_power (fun cdv A outer s H E F hcv hr => (sss_cons (ss_par 4 5 rfl sc_rest_power.nd rfl rfl (by decide) rfl rfl (sa_cons (se_ix ix_any od_ix (sb_of (se_callF ((ok_divided_by Y).cal 3 [] [0, 1, 2] (fun _ _ _ _ _ _ us ws h1 h2 => match us, ws, h1, h2 with | [_, _, _], [], _, _ => rfl)) (hr.mono (by decide)) (takes_of rfl rfl rfl rfl) (by rfl) (sc_pos (sa_cons (se_var 0) (sa_cons (se_tup (sa_cons se_int sa_nil)) (sa_cons (se_var 3) sa_nil)))))) (sb_of se_int) (fun _ _ => rfl)) (sa_cons (se_ix ix_any od_ix (sb_of (se_callF ((ok_divided_by Y).cal 3 [] [0, 1, 2] (fun _ _ _ _ _ _ us ws h1 h2 => match us, ws, h1, h2 with | [_, _, _], [], _, _ => rfl)) (hr.mono (by decide)) (takes_of rfl rfl rfl rfl) (by rfl) (sc_pos (sa_cons (se_var 0) (sa_cons (se_var 1) (sa_cons (se_var 3) sa_nil)))))) (sb_of se_int) (fun _ _ => rfl)) sa_nil))) (sss_cons (ss_while 100000 (passes_of (K := fun e s'' => L2.CX P w outer H s E e s'') rfl) (st_cmp op_gt od_cmp (sb_of (se_var 2)) (sb_of se_int) (nomark _)) (sss_cons (ss_if (st_cmp (op_eqA hr.units) od_eq (sb_of (se_op op_mod od_mod (sb_of (se_var 2)) (sb_of (d_c_TWO Y)))) (sb_of se_int) (nomark _)) (sss_one (ss_set 4 sc_rest_power.nd rfl (Or.inl rfl) (se_callF ((ok_times_rest Y).cal 4 [] [0, 1, 2, 3] (fun _ _ _ _ _ _ us ws h1 h2 => match us, ws, h1, h2 with | [_, _, _, _], [], _, _ => rfl)) (hr.mono (by decide)) (takes_of rfl rfl rfl rfl) (by rfl) (sc_pos (sa_cons (se_var 0) (sa_cons (se_var 4) (sa_cons (se_var 5) (sa_cons (se_var 3) sa_nil)))))))) sss_nil) (sss_one (ss_par 5 2 rfl sc_rest_power.nd rfl rfl (by decide) rfl rfl (sa_cons (se_callF ((ok_times_rest Y).cal 4 [] [0, 1, 2, 3] (fun _ _ _ _ _ _ us ws h1 h2 => match us, ws, h1, h2 with | [_, _, _, _], [], _, _ => rfl)) (hr.mono (by decide)) (takes_of rfl rfl rfl rfl) (by rfl) (sc_pos (sa_cons (se_var 0) (sa_cons (se_var 5) (sa_cons (se_var 5) (sa_cons (se_var 3) sa_nil)))))) (sa_cons (se_op op_fdiv od_div (sb_of (se_var 2)) (sb_of (d_c_TWO Y))) sa_nil)))))) (sss_one (ss_ret (se_var 4)))))) (fun _ _ _ _ => rfl), hm⟩
/-! polynomial_by -/
abbrev N_polynomial_by : List Str := [("modulus" : Str), ("rule" : Str), ("tap" : Str)]
abbrev ps_polynomial_by : List Str := [("modulus" : Str), ("rule" : Str)]
theorem sc_polynomial_by : FnScope N_polynomial_by ps_polynomial_by (defScope S_polynomial_by) := C8.fnScope_by (by decide +kernel)
theorem ok_polynomial_by (Y : Fx P w K mg base) : DefB P w K mg base (TT K) 1 ("polynomial_by" : Str) (defArgs S_polynomial_by) (defBody S_polynomial_by) (defScope S_polynomial_by) ps_polynomial_by f_polynomial_by := by
  obtain ⟨f, fd, Fd, hm⟩ := Y.fd_polynomial_by
  exact ⟨f, fd, Fd, def_ok (mb := t_polynomial_by) Fd sc_polynomial_by (fun cdv A outer s H E F hcv hr => (sss_one (ss_ret (se_tup (sa_star (se_new (sn_lc [(("tap" : Str), 2)] rfl sc_polynomial_by.nd (si_val (se_var 1)) (by exact blkOk_by (N := N_polynomial_by) (sc := defScope S_polynomial_by) (by decide +kernel)) (lt_name (by decide)) (fun s H C cl fp => pg_name (i := 2) sc_polynomial_by.nd rfl (Or.inl rfl)) (fun s H C cl fp => sts_nil) (fun s H C cl fp => (se_op op_mod od_mod (sb_of (se_op op_sub od_sub (sb_of se_int) (sb_of (se_var 2)))) (sb_of (se_var 0)))))) (sa_cons se_int sa_nil)))))) (fun _ _ _ _ => rfl), hm⟩
/-! next_by -/
abbrev N_next_by : List Str := [("modulus" : Str), ("rule" : Str), ("state" : Str), ("tap" : Str), ("value" : Str)]
abbrev ps_next_by : List Str := [("modulus" : Str), ("rule" : Str), ("state" : Str)]
theorem sc_next_by : FnScope N_next_by ps_next_by (defScope S_next_by) := C8.fnScope_by (by decide +kernel)
theorem ok_next_by (Y : Fx P w K mg base) : DefB P w K mg base (TT K) 1 ("next_by" : Str) (defArgs S_next_by) (defBody S_next_by) (defScope S_next_by) ps_next_by f_next_by := by
  obtain ⟨f, fd, Fd, hm⟩ := Y.fd_next_by
  exact ⟨f, fd, Fd, def_ok (mb := t_next_by) Fd sc_next_by (fun cdv A outer s H E F hcv hr => (sss_one (ss_ret (se_op op_mod od_mod (sb_of (se_callB (cr_sum rfl) cd_sum (by rfl) Y.b_sum PyProof.Rows.boot_sum (sab_cons (sb_of (se_new (sn_lc [(("tap" : Str), 3), (("value" : Str), 4)] rfl sc_next_by.nd (si_zip (by rfl) Y.b_zip (sa_cons (se_var 1) (sa_cons (se_var 2) sa_nil))) (by exact blkOk_by (N := N_next_by) (sc := defScope S_next_by) (by decide +kernel)) (lt_two (by decide) (by decide)) (fun s H C cl fp => pg_tup rfl (pgs_cons (pg_name (i := 3) sc_next_by.nd rfl (Or.inl rfl)) (pgs_cons (pg_name (i := 4) sc_next_by.nd rfl (Or.inl rfl)) pgs_nil))) (fun s H C cl fp => sts_nil) (fun s H C cl fp => (se_op op_mulA od_mul (sb_of (se_var 3)) (sb_of (se_var 4))))))) sab_nil))) (sb_of (se_var 0)))))) (fun _ _ _ _ => rfl), hm⟩
/-! broken_by -/
abbrev N_broken_by : List Str := [("modulus" : Str), ("row" : Str), ("rule" : Str), ("many" : Str), ("place" : Str)]
abbrev ps_broken_by : List Str := [("modulus" : Str), ("row" : Str), ("rule" : Str)]
theorem sc_broken_by : FnScope N_broken_by ps_broken_by (defScope S_broken_by) := C8.fnScope_by (by decide +kernel)
theorem ok_broken_by (Y : Fx P w K mg base) : DefB P w K mg base (TT K) 2 ("broken_by" : Str) (defArgs S_broken_by) (defBody S_broken_by) (defScope S_broken_by) ps_broken_by f_broken_by := by
  obtain ⟨f, fd, Fd, hm⟩ := Y.fd_broken_by
  exact ⟨f, fd, Fd, def_ok (mb := t_broken_by) Fd sc_broken_by (fun cdv A outer s H E F hcv hr => (sss_cons (ss_set 3 sc_broken_by.nd rfl (Or.inr rfl) (se_callB call_len cd_len (by rfl) Y.b_len boot_len (sab_cons (sb_of (se_var 2)) sab_nil))) (sss_one (ss_ret (se_new (sn_lc [(("place" : Str), 4)] rfl sc_broken_by.nd (si_range2 (by rfl) Y.b_range (sab_cons (sb_of (se_var 3)) (sab_cons (sb_of (se_callB call_len cd_len (by rfl) Y.b_len boot_len (sab_cons (sb_of (se_var 1)) sab_nil))) sab_nil))) (by exact blkOk_by (N := N_broken_by) (sc := defScope S_broken_by) (by decide +kernel)) (lt_name (by decide)) (fun s H C cl fp => pg_name (i := 4) sc_broken_by.nd rfl (Or.inl rfl)) (fun s H C cl fp => (sts_one (st_cmp (op_neD hr.units) od_ne (sb_of (se_ix ix_any od_ix (sb_of (se_var 1)) (sb_of (se_var 4)) (fun _ _ => rfl))) (sb_of (se_callF ((ok_next_by Y).cal 3 [] [0, 1, 2] (fun _ _ _ _ _ _ us ws h1 h2 => match us, ws, h1, h2 with | [_, _, _], [], _, _ => rfl)) (hr.mono (by decide)) L2.takes0 (by rfl) (sc_pos (sa_cons (se_var 0) (sa_cons (se_var 2) (sa_cons (se_slice (sb_of (se_var 1)) (so_some (sb_of (se_op op_sub od_sub (sb_of (se_var 4)) (sb_of (se_var 3))))) (so_some (sb_of (se_var 4)))) sa_nil)))))) (nomark _)))) (fun s H C cl fp => (se_var 4)))))))) (fun _ _ _ _ => rfl), hm⟩
/-! keeps_by -/
abbrev N_keeps_by : List Str := [("modulus" : Str), ("row" : Str), ("rule" : Str)]
abbrev ps_keeps_by : List Str := [("modulus" : Str), ("row" : Str), ("rule" : Str)]
theorem sc_keeps_by : FnScope N_keeps_by ps_keeps_by (defScope S_keeps_by) := C8.fnScope_by (by decide +kernel)
theorem ok_keeps_by (Y : Fx P w K mg base) : DefB P w K mg base (TT K) 3 ("keeps_by" : Str) (defArgs S_keeps_by) (defBody S_keeps_by) (defScope S_keeps_by) ps_keeps_by f_keeps_by := by
  obtain ⟨f, fd, Fd, hm⟩ := Y.fd_keeps_by
  exact ⟨f, fd, Fd, def_ok (mb := t_keeps_by) Fd sc_keeps_by (fun cdv A outer s H E F hcv hr => (sss_one (ss_ret (se_cmp (op_eqA hr.units) od_eq (sb_of (se_callF ((ok_broken_by Y).cal 3 [] [0, 1, 2] (fun _ _ _ _ _ _ us ws h1 h2 => match us, ws, h1, h2 with | [_, _, _], [], _, _ => rfl)) (hr.mono (by decide)) (takes_of rfl rfl rfl rfl) (by rfl) (sc_pos (sa_cons (se_var 0) (sa_cons (se_var 1) (sa_cons (se_var 2) sa_nil)))))) (sb_of (se_new (sn_lst sa_nil))) (nomark _))))) (fun _ _ _ _ => rfl), hm⟩
/-! gone_by -/
abbrev N_gone_by : List Str := [("modulus" : Str), ("row" : Str), ("rule" : Str), ("many" : Str), ("found" : Str), ("_" : Str)]
abbrev ps_gone_by : List Str := [("modulus" : Str), ("row" : Str), ("rule" : Str), ("many" : Str)]
theorem sc_gone_by : FnScope N_gone_by ps_gone_by (defScope S_gone_by) := C8.fnScope_by (by decide +kernel)
theorem ok_gone_by (Y : Fx P w K mg base) : DefB P w K mg base (TT K) 2 ("gone_by" : Str) (defArgs S_gone_by) (defBody S_gone_by) (defScope S_gone_by) ps_gone_by f_gone_by := by
  obtain ⟨f, fd, Fd, hm⟩ := Y.fd_gone_by
  exact ⟨f, fd, Fd, def_ok (mb := t_gone_by) Fd sc_gone_by (fun cdv A outer s H E F hcv hr => (sss_cons (ss_setOwn 4 sc_gone_by.nd rfl (Or.inl rfl) (sn_list (by rfl) Y.b_list (sb_of (se_var 1)))) (sss_cons (ss_for (passes_of (K := fun e s'' => L2.CX P w outer H s E e s'') rfl) rfl (si_range1 (by rfl) Y.b_range (sab_cons (sb_of (se_var 3)) sab_nil)) (sg_name 5 sc_gone_by.nd rfl (Or.inl rfl)) (sss_one (ss_appOwn 4 (se_callF ((ok_next_by Y).cal 3 [] [0, 1, 2] (fun _ _ _ _ _ _ us ws h1 h2 => match us, ws, h1, h2 with | [_, _, _], [], _, _ => rfl)) (hr.mono (by decide)) (takes_of rfl rfl rfl rfl) (by rfl) (sc_pos (sa_cons (se_var 0) (sa_cons (se_var 2) (sa_cons (se_slice (sb_own 4) (so_some (sb_of (se_op op_sub od_sub (sb_of (se_callB call_len cd_len (by rfl) Y.b_len boot_len (sab_cons (sb_own 4) sab_nil))) (sb_of (se_callB call_len cd_len (by rfl) Y.b_len boot_len (sab_cons (sb_of (se_var 2)) sab_nil)))))) so_none) sa_nil)))))))) (sss_one (ss_ret (se_callTy call_tuple_of cd_tuple (by rfl) Y.b_tuple PyProof.Rows.boot_tuple (sab_cons (sb_own 4) sab_nil))))))) (fun _ _ _ _ => rfl), hm⟩
/-! row_by -/
abbrev N_row_by : List Str := [("parts" : Str), ("many" : Str), ("modulus" : Str), ("rule" : Str), ("start" : Str)]
abbrev ps_row_by : List Str := [("parts" : Str), ("many" : Str)]
theorem sc_row_by : FnScope N_row_by ps_row_by (defScope S_row_by) := C8.fnScope_by (by decide +kernel)
theorem ok_row_by (Y : Fx P w K mg base) : DefB P w K mg base (TT K) 3 ("row_by" : Str) (defArgs S_row_by) (defBody S_row_by) (defScope S_row_by) ps_row_by f_row_by := by
  obtain ⟨f, fd, Fd, hm⟩ := Y.fd_row_by
  exact ⟨f, fd, Fd, def_ok (mb := t_row_by) Fd sc_row_by (fun cdv A outer s H E F hcv hr => (sss_cons (ss_asg (se_var 0) (sg_tup rfl (sgs_cons (sg_name 2 sc_row_by.nd rfl (Or.inl rfl)) (sgs_cons (sg_name 3 sc_row_by.nd rfl (Or.inl rfl)) (sgs_cons (sg_name 4 sc_row_by.nd rfl (Or.inl rfl)) sgs_nil))))) (sss_one (ss_ret (se_slice (sb_of (se_callF ((ok_gone_by Y).cal 4 [] [0, 1, 2, 3] (fun _ _ _ _ _ _ us ws h1 h2 => match us, ws, h1, h2 with | [_, _, _, _], [], _, _ => rfl)) (hr.mono (by decide)) (takes_of rfl rfl rfl rfl) (by rfl) (sc_pos (sa_cons (se_var 2) (sa_cons (se_var 4) (sa_cons (se_var 3) (sa_cons (se_callB (call_max2 rfl) cd_2i (by rfl) Y.b_max PyProof.Rows.boot_max (sab_cons (sb_of se_int) (sab_cons (sb_of (se_op op_sub od_sub (sb_of (se_var 1)) (sb_of (se_callB call_len cd_len (by rfl) Y.b_len boot_len (sab_cons (sb_of (se_var 4)) sab_nil))))) sab_nil))) sa_nil))))))) so_none (so_some (sb_of (se_var 1)))))))) (fun _ _ _ _ => rfl), hm⟩
/-! value_with -/
abbrev N_value_with : List Str := [("parts" : Str), ("rest" : Str), ("modulus" : Str), ("_" : Str), ("start" : Str), ("often" : Str), ("value" : Str)]
abbrev ps_value_with : List Str := [("parts" : Str), ("rest" : Str)]
theorem sc_value_with : FnScope N_value_with ps_value_with (defScope S_value_with) := C8.fnScope_by (by decide +kernel)
theorem ok_value_with (Y : Fx P w K mg base) : DefB P w K mg base (TT K) 1 ("value_with" : Str) (defArgs S_value_with) (defBody S_value_with) (defScope S_value_with) ps_value_with f_value_with := by
  obtain ⟨f, fd, Fd, hm⟩ := Y.fd_value_with
  exact ⟨f, fd, Fd, def_ok (mb := t_value_with) Fd sc_value_with (fun cdv A outer s H E F hcv hr => (sss_cons (ss_asg (se_var 0) (sg_tup rfl (sgs_cons (sg_name 2 sc_value_with.nd rfl (Or.inl rfl)) (sgs_cons (sg_name 3 sc_value_with.nd rfl (Or.inl rfl)) (sgs_cons (sg_name 4 sc_value_with.nd rfl (Or.inl rfl)) sgs_nil))))) (sss_one (ss_ret (se_op op_mod od_mod (sb_of (se_callB (cr_sum rfl) cd_sum (by rfl) Y.b_sum PyProof.Rows.boot_sum (sab_cons (sb_of (se_new (sn_lc [(("often" : Str), 5), (("value" : Str), 6)] rfl sc_value_with.nd (si_zip (by rfl) Y.b_zip (sa_cons (se_var 1) (sa_cons (se_var 4) sa_nil))) (by exact blkOk_by (N := N_value_with) (sc := defScope S_value_with) (by decide +kernel)) (lt_two (by decide) (by decide)) (fun s H C cl fp => pg_tup rfl (pgs_cons (pg_name (i := 5) sc_value_with.nd rfl (Or.inl rfl)) (pgs_cons (pg_name (i := 6) sc_value_with.nd rfl (Or.inl rfl)) pgs_nil))) (fun s H C cl fp => sts_nil) (fun s H C cl fp => (se_op op_mulA od_mul (sb_of (se_var 5)) (sb_of (se_var 6))))))) sab_nil))) (sb_of (se_var 2))))))) (fun _ _ _ _ => rfl), hm⟩
/-! rest_at -/
abbrev N_rest_at : List Str := [("parts" : Str), ("place" : Str), ("modulus" : Str), ("rule" : Str), ("_" : Str)]
abbrev ps_rest_at : List Str := [("parts" : Str), ("place" : Str)]
theorem sc_rest_at : FnScope N_rest_at ps_rest_at (defScope S_rest_at) := C8.fnScope_by (by decide +kernel)
theorem ok_rest_at (Y : Fx P w K mg base) : DefB P w K mg base (TT K) 5 ("rest_at" : Str) (defArgs S_rest_at) (defBody S_rest_at) (defScope S_rest_at) ps_rest_at f_rest_at_v2 := by
  obtain ⟨f, fd, Fd, hm⟩ := Y.fd_rest_at
  exact ⟨f, fd, Fd, def_ok (mb := t_rest_at_v2) Fd sc_rest_at (fun cdv A outer s H E F hcv hr => (sss_cons (ss_asg (se_var 0) (sg_tup rfl (sgs_cons (sg_name 2 sc_rest_at.nd rfl (Or.inl rfl)) (sgs_cons (sg_name 3 sc_rest_at.nd rfl (Or.inl rfl)) (sgs_cons (sg_name 4 sc_rest_at.nd rfl (Or.inl rfl)) sgs_nil))))) (sss_one (ss_ret (se_callF ((ok_rest_power Y).cal 4 [] [0, 1, 2, 3] (fun _ _ _ _ _ _ us ws h1 h2 => match us, ws, h1, h2 with | [_, _, _, _], [], _, _ => rfl)) (hr.mono (by decide)) (takes_of rfl rfl rfl rfl) (by rfl) (sc_pos (sa_cons (se_var 2) (sa_cons (d_c_ONE_ON Y) (sa_cons (se_var 1) (sa_cons (se_callF ((ok_polynomial_by Y).cal 2 [] [0, 1] (fun _ _ _ _ _ _ us ws h1 h2 => match us, ws, h1, h2 with | [_, _], [], _, _ => rfl)) (hr.mono (by decide)) (takes_of rfl rfl rfl rfl) (by rfl) (sc_pos (sa_cons (se_var 2) (sa_cons (se_var 3) sa_nil)))) sa_nil)))))))))) (fun _ _ _ _ => rfl), hm⟩
/-! value_by -/
abbrev N_value_by : List Str := [("parts" : Str), ("place" : Str)]
abbrev ps_value_by : List Str := [("parts" : Str), ("place" : Str)]
theorem sc_value_by : FnScope N_value_by ps_value_by (defScope S_value_by) := C8.fnScope_by (by decide +kernel)
theorem ok_value_by (Y : Fx P w K mg base) : DefB P w K mg base (TT K) 6 ("value_by" : Str) (defArgs S_value_by) (defBody S_value_by) (defScope S_value_by) ps_value_by f_value_by := by
  obtain ⟨f, fd, Fd, hm⟩ := Y.fd_value_by
  exact ⟨f, fd, Fd, def_ok (mb := t_value_by) Fd sc_value_by (fun cdv A outer s H E F hcv hr => (sss_one (ss_ret (se_callF ((ok_value_with Y).cal 2 [] [0, 1] (fun _ _ _ _ _ _ us ws h1 h2 => match us, ws, h1, h2 with | [_, _], [], _, _ => rfl)) (hr.mono (by decide)) (takes_of rfl rfl rfl rfl) (by rfl) (sc_pos (sa_cons (se_var 0) (sa_cons (se_callF ((ok_rest_at Y).cal 2 [] [0, 1] (fun _ _ _ _ _ _ us ws h1 h2 => match us, ws, h1, h2 with | [_, _], [], _, _ => rfl)) (hr.mono (by decide)) (takes_of rfl rfl rfl rfl) (by rfl) (sc_pos (sa_cons (se_var 0) (sa_cons (se_var 1) sa_nil)))) sa_nil))))))) (fun _ _ _ _ => rfl), hm⟩
/-! state_by -/
abbrev N_state_by : List Str := [("parts" : Str), ("place" : Str), ("modulus" : Str), ("rule" : Str), ("start" : Str), ("divisor" : Str), ("rest" : Str), ("found" : Str), ("_" : Str)]
abbrev ps_state_by : List Str := [("parts" : Str), ("place" : Str)]
theorem sc_state_by : FnScope N_state_by ps_state_by (defScope S_state_by) := C8.fnScope_by (by decide +kernel)
theorem ok_state_by (Y : Fx P w K mg base) : DefB P w K mg base (TT K) 6 ("state_by" : Str) (defArgs S_state_by) (defBody S_state_by) (defScope S_state_by) ps_state_by f_state_by := by
  obtain ⟨f, fd, Fd, hm⟩ := Y.fd_state_by
  exact ⟨f, fd, Fd, def_ok (mb := t_state_by) Fd sc_state_by (fun cdv A outer s H E F hcv hr => (sss_cons (ss_asg (se_var 0) (sg_tup rfl (sgs_cons (sg_name 2 sc_state_by.nd rfl (Or.inl rfl)) (sgs_cons (sg_name 3 sc_state_by.nd rfl (Or.inl rfl)) (sgs_cons (sg_name 4 sc_state_by.nd rfl (Or.inl rfl)) sgs_nil))))) (sss_cons (ss_parM3 5 6 7 rfl sc_state_by.nd rfl rfl rfl (by decide) (by decide) (by decide) rfl rfl rfl (sm_val (se_callF ((ok_polynomial_by Y).cal 2 [] [0, 1] (fun _ _ _ _ _ _ us ws h1 h2 => match us, ws, h1, h2 with | [_, _], [], _, _ => rfl)) (hr.mono (by decide)) (takes_of rfl rfl rfl rfl) (by rfl) (sc_pos (sa_cons (se_var 2) (sa_cons (se_var 3) sa_nil)))) (sm_val (se_callF ((ok_rest_at Y).cal 2 [] [0, 1] (fun _ _ _ _ _ _ us ws h1 h2 => match us, ws, h1, h2 with | [_, _], [], _, _ => rfl)) (hr.mono (by decide)) (takes_of rfl rfl rfl rfl) (by rfl) (sc_pos (sa_cons (se_var 0) (sa_cons (se_var 1) sa_nil)))) (sm_own (sn_lst sa_nil) sm_nil)))) (sss_cons (ss_for (passes_of (K := fun e s'' => L2.CX P w outer H s E e s'') rfl) rfl (si_val (se_var 4)) (sg_name 8 sc_state_by.nd rfl (Or.inl rfl)) (sss_cons (ss_appOwn 7 (se_callF ((ok_value_with Y).cal 2 [] [0, 1] (fun _ _ _ _ _ _ us ws h1 h2 => match us, ws, h1, h2 with | [_, _], [], _, _ => rfl)) (hr.mono (by decide)) (takes_of rfl rfl rfl rfl) (by rfl) (sc_pos (sa_cons (se_var 0) (sa_cons (se_var 6) sa_nil))))) (sss_one (ss_set 6 sc_state_by.nd rfl (Or.inl rfl) (se_callF ((ok_times_rest Y).cal 4 [] [0, 1, 2, 3] (fun _ _ _ _ _ _ us ws h1 h2 => match us, ws, h1, h2 with | [_, _, _, _], [], _, _ => rfl)) (hr.mono (by decide)) (takes_of rfl rfl rfl rfl) (by rfl) (sc_pos (sa_cons (se_var 2) (sa_cons (se_var 6) (sa_cons (d_c_ONE_ON Y) (sa_cons (se_var 5) sa_nil)))))))))) (sss_one (ss_ret (se_callTy call_tuple_of cd_tuple (by rfl) Y.b_tuple PyProof.Rows.boot_tuple (sab_cons (sb_own 7) sab_nil)))))))) (fun _ _ _ _ => rfl), hm⟩
/-! check_start -/
abbrev N_check_start : List Str := [("modulus" : Str), ("many" : Str), ("start" : Str), ("index" : Str), ("ahead" : Str), ("each" : Str)]
abbrev ps_check_start : List Str := [("modulus" : Str), ("many" : Str), ("start" : Str)]
theorem sc_check_start : FnScope N_check_start ps_check_start (defScope S_check_start) := C8.fnScope_by (by decide +kernel)
theorem ok_check_start (Y : Fx P w K mg base) : DefB P w K mg base (TT K) 7 ("check_start" : Str) (defArgs S_check_start) (defBody S_check_start) (defScope S_check_start) ps_check_start f_check_start := by
  obtain ⟨f, fd, Fd, hm⟩ := Y.fd_check_start
  exact ⟨f, fd, Fd, def_ok (mb := t_check_start) Fd sc_check_start (fun cdv A outer s H E F hcv hr => by
    obtain ⟨c, hcd0, tb⟩ := Y.tab_check_start f cdv hm hcv
    subst hcd0
    have tun := Y.tun_check_start
    exact (sss_one (ss_for (passes_of (K := fun e s'' => L2.CX P w outer H s E e s'') rfl) rfl (si_val (se_lam (ps := [("ahead" : Str), ("each" : Str)]) (okl_wrong_at Y) (hr.mono (by decide)) (kb := 4) (hr.mono (by decide)) (takes_of rfl rfl rfl rfl) (by rfl) (by exact lamP_by (sc := defScope S_check_start) (by decide +kernel)) sc_check_start.nd (by decide) (fun j p h => match j, h with | 0, h => ⟨4, rfl, by cases h; rfl⟩ | 1, h => ⟨5, rfl, by cases h; rfl⟩ | j + 2, h => by cases h) rfl tb rfl (tmem_check_start K) tun rfl (fun _ _ _ _ _ us h => match us, h with | [_, _], _ => rfl) (fun A outer s H E f c' F hrl => (se_callF ((ok_is_value Y).cal 2 [] [0, 1] (fun _ _ _ _ _ _ us ws h1 h2 => match us, ws, h1, h2 with | [_, _], [], _, _ => rfl)) (hrl.mono (by decide)) (takes_of rfl rfl rfl rfl) (by rfl) (sc_pos (sa_cons (se_var 0) (sa_cons (se_var 5) sa_nil))))) (sat_cons (se_var 2) (sat_cons (se_var 1) (sat_cons (se_var 1) sat_nil))) rfl)) (sg_name 3 sc_check_start.nd rfl (Or.inl rfl)) (sss_one (d_r_InvalidStart Y rfl (takes_of rfl rfl rfl rfl) hr (by rfl) (se_var 3)))))) (fun _ _ _ _ => rfl), hm⟩
end
end K03
set_option Elab.async false
set_option linter.all false
set_option maxRecDepth 100000
set_option maxHeartbeats 4000000
namespace K03
open PySem PySem.Spec PyProof.Rows L2 DL LamX SR

section
variable {P : Program} {w : World} {K : PySem.W.Frag} {mg : Str → Option Value} {base : Heap}
/-! Register.__init__ -/
abbrev N_Register___init__ : List Str := [("self" : Str), ("modulus" : Str), ("rule" : Str), ("start" : Str)]
abbrev ps_Register___init__ : List Str := [("self" : Str), ("modulus" : Str), ("rule" : Str), ("start" : Str)]
theorem sc_Register___init__ : FnScope N_Register___init__ ps_Register___init__ (defScope S_Register___init__) := C8.fnScope_by (by decide +kernel)
theorem okm_Register___init__ (Y : Fx P w K mg base) {f : Addr} {fd : FuncData} (Fd : FunD K ("__init__" : Str) ("Register.__init__" : Str) (defArgs S_Register___init__) (defBody S_Register___init__) (defScope S_Register___init__) [] [] f fd) : FnOk P w K mg base (L2.CX P w) 10 f fd ps_Register___init__ (spOf ⟨K, mg, TT K⟩ 4 f_Register___init__) :=
  def_ok (mb := t_Register___init__) Fd sc_Register___init__ (fun cdv A outer s H E F hcv hr => (sss_cons (ss_expr (se_callF ((ok_check_modulus Y).cal 1 [] [0] (fun _ _ _ _ _ _ us ws h1 h2 => match us, ws, h1, h2 with | [_], [], _, _ => rfl)) (hr.mono (by decide)) (takes_of rfl rfl rfl rfl) (by rfl) (sc_pos (sa_cons (se_var 1) sa_nil)))) (sss_cons (ss_expr (se_callF ((ok_check_short_rule Y).cal 2 [] [0, 1] (fun _ _ _ _ _ _ us ws h1 h2 => match us, ws, h1, h2 with | [_, _], [], _, _ => rfl)) (hr.mono (by decide)) (takes_of rfl rfl rfl rfl) (by rfl) (sc_pos (sa_cons (se_var 1) (sa_cons (se_var 2) sa_nil))))) (sss_cons (ss_expr (se_callF ((ok_check_start Y).cal 3 [] [0, 1, 2] (fun _ _ _ _ _ _ us ws h1 h2 => match us, ws, h1, h2 with | [_, _, _], [], _, _ => rfl)) (hr.mono (by decide)) (takes_of rfl rfl rfl rfl) (by rfl) (sc_pos (sa_cons (se_var 1) (sa_cons (se_callB call_len cd_len (by rfl) Y.b_len boot_len (sab_cons (sb_of (se_var 2)) sab_nil)) (sa_cons (se_var 3) sa_nil)))))) (sss_one (ss_setFld Y.fld_three (se_var 0) (se_tup (sa_cons (se_var 1) (sa_cons (se_var 2) (sa_cons (se_var 3) sa_nil)))) (by rfl))))))) (fun _ _ _ _ => rfl)
theorem mak_Register (Y : Fx P w K mg base) (np : Nat) (ks : List Str) (ix : List Nat) (hb : ∀ (kV doc pm : Value) (an : Option Addr) (cdv ct : Value) (us ws : List Value), us.length = np + 1 → ws.length = ks.length → bindArgs (PySem.W.fnOf ("__init__" : Str) ("Register.__init__" : Str) (defArgs S_Register___init__) (defBody S_Register___init__) (defScope S_Register___init__) .none kV doc pm an cdv ct) ⟨us, ks.zip ws⟩ = pure (ps_Register___init__.zip (pick ix (us ++ ws)))) : MakC P w K mg base (TT K) 10 np ks ix ("Register" : Str) 4 f_Register___init__ := by
  obtain ⟨Ca, f, fd, h1, h2, F⟩ := Y.cl_Register
  refine ⟨Ca, f, fd, ps_Register___init__, h1, h2, rfl, okm_Register___init__ Y F, fun s us ws _ l1 l2 => ?_⟩
  obtain ⟨oc, od, dV, kV, doc, pm, an, cdv, ct, osl, rfl, lk, hcd, hD, hK⟩ := F.ex
  rcases hD with ⟨_, rfl⟩ | ⟨e, _⟩
  · exact .of_eq (hb kV doc pm an cdv ct us ws l1 l2)
  · exact absurd rfl e
/-! Register.modulus -/
abbrev N_Register_modulus : List Str := [("self" : Str)]
abbrev ps_Register_modulus : List Str := [("self" : Str)]
theorem sc_Register_modulus : FnScope N_Register_modulus ps_Register_modulus (defScope S_Register_modulus) := C8.fnScope_by (by decide +kernel)
theorem okm_Register_modulus (Y : Fx P w K mg base) {f : Addr} {fd : FuncData} (Fd : FunD K ("modulus" : Str) ("Register.modulus" : Str) (defArgs S_Register_modulus) (defBody S_Register_modulus) (defScope S_Register_modulus) [] [] f fd) : FnOk P w K mg base (L2.CX P w) 1 f fd ps_Register_modulus (spOf ⟨K, mg, TT K⟩ 1 f_Register_modulus) :=
  def_ok (mb := t_Register_modulus) Fd sc_Register_modulus (fun cdv A outer s H E F hcv hr => (sss_one (ss_ret (se_ix ix_any od_ix (sb_of (se_fld Y.fld_three (se_var 0))) (sb_of se_int) (fun _ _ => rfl))))) (fun _ _ _ _ => rfl)
theorem prc_Register_modulus (Y : Fx P w K mg base) : PrC P w K mg base (TT K) 1 ("Register" : Str) ("modulus" : Str) f_Register_modulus := by
  obtain ⟨Ca, p, g, fd, h1, h2, h3, F⟩ := Y.pr_Register_modulus
  refine ⟨Ca, p, g, fd, ps_Register_modulus, h1, h2, h3, okm_Register_modulus Y F, fun s us _ hl => ?_⟩
  obtain ⟨oc, od, dV, kV, doc, pm, an, cdv, ct, osl, rfl, lk, hcd, hD, hK⟩ := F.ex
  rcases hD with ⟨_, rfl⟩ | ⟨e, _⟩
  · match us, hl with
    | [_], _ => exact .of_eq rfl
  · exact absurd rfl e
/-! Register.rule -/
abbrev N_Register_rule : List Str := [("self" : Str)]
abbrev ps_Register_rule : List Str := [("self" : Str)]
theorem sc_Register_rule : FnScope N_Register_rule ps_Register_rule (defScope S_Register_rule) := C8.fnScope_by (by decide +kernel)
theorem okm_Register_rule (Y : Fx P w K mg base) {f : Addr} {fd : FuncData} (Fd : FunD K ("rule" : Str) ("Register.rule" : Str) (defArgs S_Register_rule) (defBody S_Register_rule) (defScope S_Register_rule) [] [] f fd) : FnOk P w K mg base (L2.CX P w) 1 f fd ps_Register_rule (spOf ⟨K, mg, TT K⟩ 1 f_Register_rule) :=
  def_ok (mb := t_Register_rule) Fd sc_Register_rule (fun cdv A outer s H E F hcv hr => (sss_one (ss_ret (se_ix ix_any od_ix (sb_of (se_fld Y.fld_three (se_var 0))) (sb_of se_int) (fun _ _ => rfl))))) (fun _ _ _ _ => rfl)
theorem prc_Register_rule (Y : Fx P w K mg base) : PrC P w K mg base (TT K) 1 ("Register" : Str) ("rule" : Str) f_Register_rule := by
  obtain ⟨Ca, p, g, fd, h1, h2, h3, F⟩ := Y.pr_Register_rule
  refine ⟨Ca, p, g, fd, ps_Register_rule, h1, h2, h3, okm_Register_rule Y F, fun s us _ hl => ?_⟩
  obtain ⟨oc, od, dV, kV, doc, pm, an, cdv, ct, osl, rfl, lk, hcd, hD, hK⟩ := F.ex
  rcases hD with ⟨_, rfl⟩ | ⟨e, _⟩
  · match us, hl with
    | [_], _ => exact .of_eq rfl
  · exact absurd rfl e
/-! Register.start -/
abbrev N_Register_start : List Str := [("self" : Str)]
abbrev ps_Register_start : List Str := [("self" : Str)]
theorem sc_Register_start : FnScope N_Register_start ps_Register_start (defScope S_Register_start) := C8.fnScope_by (by decide +kernel)
theorem okm_Register_start (Y : Fx P w K mg base) {f : Addr} {fd : FuncData} (Fd : FunD K ("start" : Str) ("Register.start" : Str) (defArgs S_Register_start) (defBody S_Register_start) (defScope S_Register_start) [] [] f fd) : FnOk P w K mg base (L2.CX P w) 1 f fd ps_Register_start (spOf ⟨K, mg, TT K⟩ 1 f_Register_start) :=
  def_ok (mb := t_Register_start) Fd sc_Register_start (fun cdv A outer s H E F hcv hr => (sss_one (ss_ret (se_ix ix_any od_ix (sb_of (se_fld Y.fld_three (se_var 0))) (sb_of se_int) (fun _ _ => rfl))))) (fun _ _ _ _ => rfl)
theorem prc_Register_start (Y : Fx P w K mg base) : PrC P w K mg base (TT K) 1 ("Register" : Str) ("start" : Str) f_Register_start := by
  obtain ⟨Ca, p, g, fd, h1, h2, h3, F⟩ := Y.pr_Register_start
  refine ⟨Ca, p, g, fd, ps_Register_start, h1, h2, h3, okm_Register_start Y F, fun s us _ hl => ?_⟩
  obtain ⟨oc, od, dV, kV, doc, pm, an, cdv, ct, osl, rfl, lk, hcd, hD, hK⟩ := F.ex
  rcases hD with ⟨_, rfl⟩ | ⟨e, _⟩
  · match us, hl with
    | [_], _ => exact .of_eq rfl
  · exact absurd rfl e
/-! Register.parts -/
abbrev N_Register_parts : List Str := [("self" : Str)]
abbrev ps_Register_parts : List Str := [("self" : Str)]
theorem sc_Register_parts : FnScope N_Register_parts ps_Register_parts (defScope S_Register_parts) := C8.fnScope_by (by decide +kernel)
theorem okm_Register_parts (Y : Fx P w K mg base) {f : Addr} {fd : FuncData} (Fd : FunD K ("parts" : Str) ("Register.parts" : Str) (defArgs S_Register_parts) (defBody S_Register_parts) (defScope S_Register_parts) [] [] f fd) : FnOk P w K mg base (L2.CX P w) 1 f fd ps_Register_parts (spOf ⟨K, mg, TT K⟩ 1 f_Register_parts) :=
  def_ok (mb := t_Register_parts) Fd sc_Register_parts (fun cdv A outer s H E F hcv hr => (sss_one (ss_ret (se_fld Y.fld_three (se_var 0))))) (fun _ _ _ _ => rfl)
theorem prc_Register_parts (Y : Fx P w K mg base) : PrC P w K mg base (TT K) 1 ("Register" : Str) ("parts" : Str) f_Register_parts := by
  obtain ⟨Ca, p, g, fd, h1, h2, h3, F⟩ := Y.pr_Register_parts
  refine ⟨Ca, p, g, fd, ps_Register_parts, h1, h2, h3, okm_Register_parts Y F, fun s us _ hl => ?_⟩
  obtain ⟨oc, od, dV, kV, doc, pm, an, cdv, ct, osl, rfl, lk, hcd, hD, hK⟩ := F.ex
  rcases hD with ⟨_, rfl⟩ | ⟨e, _⟩
  · match us, hl with
    | [_], _ => exact .of_eq rfl
  · exact absurd rfl e
/-! Register.__eq__ -/
abbrev N_Register___eq__ : List Str := [("self" : Str), ("other" : Str)]
abbrev ps_Register___eq__ : List Str := [("self" : Str), ("other" : Str)]
theorem sc_Register___eq__ : FnScope N_Register___eq__ ps_Register___eq__ (defScope S_Register___eq__) := C8.fnScope_by (by decide +kernel)
theorem okm_Register___eq__ (Y : Fx P w K mg base) {f : Addr} {fd : FuncData} (Fd : FunD K ("__eq__" : Str) ("Register.__eq__" : Str) (defArgs S_Register___eq__) (defBody S_Register___eq__) (defScope S_Register___eq__) [] [] f fd) : FnOk P w K mg base (L2.CX P w) 3 f fd ps_Register___eq__ (spOf ⟨K, mg, TT K⟩ 2 f_Register___eq__) :=
  def_ok (mb := t_Register___eq__) Fd sc_Register___eq__ (fun cdv A outer s H E F hcv hr => (sss_one (ss_ret (se_and (se_isO Y.is_Register (by rfl) Y.b_isinstance (by rfl) (sb_of (se_var 1))) (se_one (se_cmp (op_eqA hr.units) od_eq (sb_of (se_prop (prc_Register_parts Y) (hr.mono (by decide)) (se_var 0))) (sb_of (se_prop (prc_Register_parts Y) (hr.mono (by decide)) (se_var 1))) (nomark _))))))) (fun _ _ _ _ => rfl)
theorem eqc_Register (Y : Fx P w K mg base) : EqC P w K mg base (TT K) 3 [("Register" : Str)] ("Register" : Str) f_Register___eq__ := by
  obtain ⟨Ca, f, fd, h1, h2, h3, h4, h5, h6, h7, F⟩ := Y.eq_Register
  refine ⟨Ca, f, fd, ps_Register___eq__, h1, h2, h3, h4, h5, h6, h7, okm_Register___eq__ Y F, fun s us _ hl => ?_⟩
  obtain ⟨oc, od, dV, kV, doc, pm, an, cdv, ct, osl, rfl, lk, hcd, hD, hK⟩ := F.ex
  rcases hD with ⟨_, rfl⟩ | ⟨e, _⟩
  · match us, hl with
    | [_, _], _ => exact .of_eq rfl
  · exact absurd rfl e
/-! check_register -/
abbrev N_check_register : List Str := [("register" : Str)]
abbrev ps_check_register : List Str := [("register" : Str)]
theorem sc_check_register : FnScope N_check_register ps_check_register (defScope S_check_register) := C8.fnScope_by (by decide +kernel)
theorem ok_check_register (Y : Fx P w K mg base) : DefB P w K mg base (TT K) 1 ("check_register" : Str) (defArgs S_check_register) (defBody S_check_register) (defScope S_check_register) ps_check_register f_check_register := by
  obtain ⟨f, fd, Fd, hm⟩ := Y.fd_check_register
  exact ⟨f, fd, Fd, def_ok (mb := t_check_register) Fd sc_check_register (fun cdv A outer s H E F hcv hr => (sss_one (ss_if (st_not (st_val (se_isO Y.is_Register (by rfl) Y.b_isinstance (by rfl) (sb_of (se_var 0))))) (sss_one (d_r_NotARegister Y rfl (takes_of rfl rfl rfl rfl) hr (by rfl) (se_var 0))) sss_nil))) (fun _ _ _ _ => rfl), hm⟩
/-! row_of -/
abbrev N_row_of : List Str := [("register" : Str), ("many" : Str)]
abbrev ps_row_of : List Str := [("register" : Str), ("many" : Str)]
theorem sc_row_of : FnScope N_row_of ps_row_of (defScope S_row_of) := C8.fnScope_by (by decide +kernel)
theorem ok_row_of (Y : Fx P w K mg base) : DefB P w K mg base (TT K) 4 ("row_of" : Str) (defArgs S_row_of) (defBody S_row_of) (defScope S_row_of) ps_row_of f_row_of := by
  obtain ⟨f, fd, Fd, hm⟩ := Y.fd_row_of
  exact ⟨f, fd, Fd, def_ok (mb := t_row_of) Fd sc_row_of (fun cdv A outer s H E F hcv hr => (sss_cons (ss_expr (se_callF ((ok_check_register Y).cal 1 [] [0] (fun _ _ _ _ _ _ us ws h1 h2 => match us, ws, h1, h2 with | [_], [], _, _ => rfl)) (hr.mono (by decide)) (takes_of rfl rfl rfl rfl) (by rfl) (sc_pos (sa_cons (se_var 0) sa_nil)))) (sss_cons (ss_expr (se_callF ((ok_check_number Y).cal 3 [] [0, 1, 2] (fun _ _ _ _ _ _ us ws h1 h2 => match us, ws, h1, h2 with | [_, _, _], [], _, _ => rfl)) (hr.mono (by decide)) (takes_of rfl rfl rfl rfl) (by rfl) (sc_pos (sa_cons (se_var 1) (sa_cons se_int (sa_cons (d_c_MOST_VALUES Y) sa_nil)))))) (sss_one (ss_ret (se_callF ((ok_row_by Y).cal 2 [] [0, 1] (fun _ _ _ _ _ _ us ws h1 h2 => match us, ws, h1, h2 with | [_, _], [], _, _ => rfl)) (hr.mono (by decide)) (takes_of rfl rfl rfl rfl) (by rfl) (sc_pos (sa_cons (se_prop (prc_Register_parts Y) (hr.mono (by decide)) (se_var 0)) (sa_cons (se_var 1) sa_nil))))))))) (fun _ _ _ _ => rfl), hm⟩
/-! value_at -/
abbrev N_value_at : List Str := [("register" : Str), ("place" : Str)]
abbrev ps_value_at : List Str := [("register" : Str), ("place" : Str)]
theorem sc_value_at : FnScope N_value_at ps_value_at (defScope S_value_at) := C8.fnScope_by (by decide +kernel)
theorem ok_value_at (Y : Fx P w K mg base) : DefB P w K mg base (TT K) 7 ("value_at" : Str) (defArgs S_value_at) (defBody S_value_at) (defScope S_value_at) ps_value_at f_value_at := by
  obtain ⟨f, fd, Fd, hm⟩ := Y.fd_value_at
  exact ⟨f, fd, Fd, def_ok (mb := t_value_at) Fd sc_value_at (fun cdv A outer s H E F hcv hr => (sss_cons (ss_expr (se_callF ((ok_check_register Y).cal 1 [] [0] (fun _ _ _ _ _ _ us ws h1 h2 => match us, ws, h1, h2 with | [_], [], _, _ => rfl)) (hr.mono (by decide)) (takes_of rfl rfl rfl rfl) (by rfl) (sc_pos (sa_cons (se_var 0) sa_nil)))) (sss_cons (ss_expr (se_callF ((ok_check_number Y).cal 3 [] [0, 1, 2] (fun _ _ _ _ _ _ us ws h1 h2 => match us, ws, h1, h2 with | [_, _, _], [], _, _ => rfl)) (hr.mono (by decide)) (takes_of rfl rfl rfl rfl) (by rfl) (sc_pos (sa_cons (se_var 1) (sa_cons se_int (sa_cons (d_c_MOST_PLACE Y) sa_nil)))))) (sss_one (ss_ret (se_callF ((ok_value_by Y).cal 2 [] [0, 1] (fun _ _ _ _ _ _ us ws h1 h2 => match us, ws, h1, h2 with | [_, _], [], _, _ => rfl)) (hr.mono (by decide)) (takes_of rfl rfl rfl rfl) (by rfl) (sc_pos (sa_cons (se_prop (prc_Register_parts Y) (hr.mono (by decide)) (se_var 0)) (sa_cons (se_var 1) sa_nil))))))))) (fun _ _ _ _ => rfl), hm⟩
/-! state_at -/
abbrev N_state_at : List Str := [("register" : Str), ("place" : Str)]
abbrev ps_state_at : List Str := [("register" : Str), ("place" : Str)]
theorem sc_state_at : FnScope N_state_at ps_state_at (defScope S_state_at) := C8.fnScope_by (by decide +kernel)
theorem ok_state_at (Y : Fx P w K mg base) : DefB P w K mg base (TT K) 7 ("state_at" : Str) (defArgs S_state_at) (defBody S_state_at) (defScope S_state_at) ps_state_at f_state_at := by
  obtain ⟨f, fd, Fd, hm⟩ := Y.fd_state_at
  exact ⟨f, fd, Fd, def_ok (mb := t_state_at) Fd sc_state_at (fun cdv A outer s H E F hcv hr => (sss_cons (ss_expr (se_callF ((ok_check_register Y).cal 1 [] [0] (fun _ _ _ _ _ _ us ws h1 h2 => match us, ws, h1, h2 with | [_], [], _, _ => rfl)) (hr.mono (by decide)) (takes_of rfl rfl rfl rfl) (by rfl) (sc_pos (sa_cons (se_var 0) sa_nil)))) (sss_cons (ss_expr (se_callF ((ok_check_number Y).cal 3 [] [0, 1, 2] (fun _ _ _ _ _ _ us ws h1 h2 => match us, ws, h1, h2 with | [_, _, _], [], _, _ => rfl)) (hr.mono (by decide)) (takes_of rfl rfl rfl rfl) (by rfl) (sc_pos (sa_cons (se_var 1) (sa_cons se_int (sa_cons (d_c_MOST_PLACE Y) sa_nil)))))) (sss_one (ss_ret (se_callF ((ok_state_by Y).cal 2 [] [0, 1] (fun _ _ _ _ _ _ us ws h1 h2 => match us, ws, h1, h2 with | [_, _], [], _, _ => rfl)) (hr.mono (by decide)) (takes_of rfl rfl rfl rfl) (by rfl) (sc_pos (sa_cons (se_prop (prc_Register_parts Y) (hr.mono (by decide)) (se_var 0)) (sa_cons (se_var 1) sa_nil))))))))) (fun _ _ _ _ => rfl), hm⟩
/-! check_told -/
abbrev N_check_told : List Str := [("modulus" : Str), ("row" : Str), ("rule" : Str)]
abbrev ps_check_told : List Str := [("modulus" : Str), ("row" : Str), ("rule" : Str)]
theorem sc_check_told : FnScope N_check_told ps_check_told (defScope S_check_told) := C8.fnScope_by (by decide +kernel)
theorem ok_check_told (Y : Fx P w K mg base) : DefB P w K mg base (TT K) 10 ("check_told" : Str) (defArgs S_check_told) (defBody S_check_told) (defScope S_check_told) ps_check_told f_check_told := by
  obtain ⟨f, fd, Fd, hm⟩ := Y.fd_check_told
  exact ⟨f, fd, Fd, def_ok (mb := t_check_told) Fd sc_check_told (fun cdv A outer s H E F hcv hr => (sss_cons (ss_expr (se_callF ((ok_check_modulus Y).cal 1 [] [0] (fun _ _ _ _ _ _ us ws h1 h2 => match us, ws, h1, h2 with | [_], [], _, _ => rfl)) (hr.mono (by decide)) (takes_of rfl rfl rfl rfl) (by rfl) (sc_pos (sa_cons (se_var 0) sa_nil)))) (sss_cons (ss_expr (se_callF ((ok_check_row Y).cal 2 [] [0, 1] (fun _ _ _ _ _ _ us ws h1 h2 => match us, ws, h1, h2 with | [_, _], [], _, _ => rfl)) (hr.mono (by decide)) (takes_of rfl rfl rfl rfl) (by rfl) (sc_pos (sa_cons (se_var 0) (sa_cons (se_var 1) sa_nil))))) (sss_one (ss_expr (se_callF ((ok_check_rule Y).cal 2 [] [0, 1] (fun _ _ _ _ _ _ us ws h1 h2 => match us, ws, h1, h2 with | [_, _], [], _, _ => rfl)) (hr.mono (by decide)) (takes_of rfl rfl rfl rfl) (by rfl) (sc_pos (sa_cons (se_var 0) (sa_cons (se_var 2) sa_nil))))))))) (fun _ _ _ _ => rfl), hm⟩
/-! keeps -/
abbrev N_keeps : List Str := [("modulus" : Str), ("row" : Str), ("rule" : Str)]
abbrev ps_keeps : List Str := [("modulus" : Str), ("row" : Str), ("rule" : Str)]
theorem sc_keeps : FnScope N_keeps ps_keeps (defScope S_keeps) := C8.fnScope_by (by decide +kernel)
theorem ok_keeps (Y : Fx P w K mg base) : DefB P w K mg base (TT K) 11 ("keeps" : Str) (defArgs S_keeps) (defBody S_keeps) (defScope S_keeps) ps_keeps f_keeps := by
  obtain ⟨f, fd, Fd, hm⟩ := Y.fd_keeps
  exact ⟨f, fd, Fd, def_ok (mb := t_keeps) Fd sc_keeps (fun cdv A outer s H E F hcv hr => (sss_cons (ss_expr (se_callF ((ok_check_told Y).cal 3 [] [0, 1, 2] (fun _ _ _ _ _ _ us ws h1 h2 => match us, ws, h1, h2 with | [_, _, _], [], _, _ => rfl)) (hr.mono (by decide)) (takes_of rfl rfl rfl rfl) (by rfl) (sc_pos (sa_cons (se_var 0) (sa_cons (se_var 1) (sa_cons (se_var 2) sa_nil)))))) (sss_one (ss_ret (se_callF ((ok_keeps_by Y).cal 3 [] [0, 1, 2] (fun _ _ _ _ _ _ us ws h1 h2 => match us, ws, h1, h2 with | [_, _, _], [], _, _ => rfl)) (hr.mono (by decide)) (takes_of rfl rfl rfl rfl) (by rfl) (sc_pos (sa_cons (se_var 0) (sa_cons (se_var 1) (sa_cons (se_var 2) sa_nil))))))))) (fun _ _ _ _ => rfl), hm⟩
/-! gone_on -/
abbrev N_gone_on : List Str := [("modulus" : Str), ("row" : Str), ("rule" : Str), ("many" : Str)]
abbrev ps_gone_on : List Str := [("modulus" : Str), ("row" : Str), ("rule" : Str), ("many" : Str)]
theorem sc_gone_on : FnScope N_gone_on ps_gone_on (defScope S_gone_on) := C8.fnScope_by (by decide +kernel)
theorem ok_gone_on (Y : Fx P w K mg base) : DefB P w K mg base (TT K) 11 ("gone_on" : Str) (defArgs S_gone_on) (defBody S_gone_on) (defScope S_gone_on) ps_gone_on f_gone_on := by
  obtain ⟨f, fd, Fd, hm⟩ := Y.fd_gone_on
  exact ⟨f, fd, Fd, def_ok (mb := t_gone_on) Fd sc_gone_on (fun cdv A outer s H E F hcv hr => (sss_cons (ss_expr (se_callF ((ok_check_told Y).cal 3 [] [0, 1, 2] (fun _ _ _ _ _ _ us ws h1 h2 => match us, ws, h1, h2 with | [_, _, _], [], _, _ => rfl)) (hr.mono (by decide)) (takes_of rfl rfl rfl rfl) (by rfl) (sc_pos (sa_cons (se_var 0) (sa_cons (se_var 1) (sa_cons (se_var 2) sa_nil)))))) (sss_cons (ss_expr (se_callF ((ok_check_number Y).cal 3 [] [0, 1, 2] (fun _ _ _ _ _ _ us ws h1 h2 => match us, ws, h1, h2 with | [_, _, _], [], _, _ => rfl)) (hr.mono (by decide)) (takes_of rfl rfl rfl rfl) (by rfl) (sc_pos (sa_cons (se_var 3) (sa_cons se_int (sa_cons (d_c_MOST_VALUES Y) sa_nil)))))) (sss_cons (ss_if (st_w (sw_or (st_cmp op_lt od_cmp (sb_of (se_callB call_len cd_len (by rfl) Y.b_len boot_len (sab_cons (sb_of (se_var 1)) sab_nil))) (sb_of (se_callB call_len cd_len (by rfl) Y.b_len boot_len (sab_cons (sb_of (se_var 2)) sab_nil))) (nomark _)) (sw_or1 (st_cmp op_gt od_cmp (sb_of (se_op op_addA od_add (sb_of (se_callB call_len cd_len (by rfl) Y.b_len boot_len (sab_cons (sb_of (se_var 1)) sab_nil))) (sb_of (se_var 3)))) (sb_of (d_c_MOST_VALUES Y)) (nomark _))))) (sss_one (d_r0_Over Y (takes_of rfl rfl rfl rfl))) sss_nil) (sss_one (ss_ret (se_callF ((ok_gone_by Y).cal 4 [] [0, 1, 2, 3] (fun _ _ _ _ _ _ us ws h1 h2 => match us, ws, h1, h2 with | [_, _, _, _], [], _, _ => rfl)) (hr.mono (by decide)) (takes_of rfl rfl rfl rfl) (by rfl) (sc_pos (sa_cons (se_var 0) (sa_cons (se_var 1) (sa_cons (se_var 2) (sa_cons (se_var 3) sa_nil)))))))))))) (fun _ _ _ _ => rfl), hm⟩
/-! _law_bowl -/
abbrev N_L_bowl : List Str := [("script" : Str), ("lap" : Str), ("own" : Str), ("stir" : Str), ("cell" : Str), ("far" : Str)]
abbrev ps_L_bowl : List Str := [("script" : Str), ("lap" : Str)]
theorem sc_L_bowl : FnScope N_L_bowl ps_L_bowl (defScope S_L_bowl) := C8.fnScope_by (by decide +kernel)
theorem ok_L_bowl (Y : Fx P w K mg base) : DefB P w K mg base (TT K) 1 ("_law_bowl" : Str) (defArgs S_L_bowl) (defBody S_L_bowl) (defScope S_L_bowl) ps_L_bowl f_L_bowl := by
  obtain ⟨f, fd, Fd, hm⟩ := Y.fd_L_bowl
  exact ⟨f, fd, Fd, def_ok (mb := t_L_bowl) Fd sc_L_bowl (fun cdv A outer s H E F hcv hr => (sss_cons (ss_par 2 3 rfl sc_L_bowl.nd rfl rfl (by decide) rfl rfl (sa_cons (se_if (st_cmp op_lt od_cmp (sb_of (se_var 1)) (sb_of (se_callB call_len cd_len (by rfl) Y.b_len boot_len (sab_cons (sb_of (se_var 0)) sab_nil))) (nomark _)) (se_callTy call_int1 cd_int (by rfl) Y.b_int PyProof.Rows.boot_int (sab_cons (sb_of (se_ix ix_any od_ix (sb_of (se_var 0)) (sb_of (se_var 1)) (fun _ _ => rfl))) sab_nil)) se_int) (sa_cons (se_op op_addA od_add (sb_of se_int) (sb_of (se_op op_mulA od_mul (sb_of se_int) (sb_of (se_var 1))))) sa_nil))) (sss_cons (ss_for (passes_of (K := fun e s'' => L2.CX P w outer H s E e s'') rfl) rfl (si_val (se_slice (sb_of (se_var 0)) so_none (so_some (sb_of se_int)))) (sg_name 4 sc_L_bowl.nd rfl (Or.inl rfl)) (sss_one (ss_set 3 sc_L_bowl.nd rfl (Or.inl rfl) (se_op op_mod od_mod (sb_of (se_callTy call_int1 cd_int (by rfl) Y.b_int PyProof.Rows.boot_int (sab_cons (sb_of (se_op op_addA od_add (sb_of (se_op op_addA od_add (sb_of (se_op op_mulA od_mul (sb_of (se_var 3)) (sb_of se_int))) (sb_of (se_op op_mulA od_mul (sb_of (se_op op_mod od_mod (sb_of (se_callTy call_int1 cd_int (by rfl) Y.b_int PyProof.Rows.boot_int (sab_cons (sb_of (se_var 4)) sab_nil))) (sb_of se_int))) (sb_of se_int))))) (sb_of se_int))) sab_nil))) (sb_of se_int))))) (sss_cons (ss_set 5 sc_L_bowl.nd rfl (Or.inl rfl) (se_if (st_w (sw_or (st_cmp op_lt od_cmp (sb_of (se_var 2)) (sb_of se_int) (nomark _)) (sw_or1 (st_cmp op_ge od_cmp (sb_of (se_var 2)) (sb_of (se_op op_pow od_pow (sb_of se_int) (sb_of se_int))) (nomark _))))) (se_op op_mod od_mod (sb_of (se_callB call_abs cd_abs (by rfl) Y.b_abs PyProof.Rows.boot_abs (sab_cons (sb_of (se_var 2)) sab_nil))) (sb_of (se_op op_pow od_pow (sb_of se_int) (sb_of se_int)))) se_int)) (sss_one (ss_ret (se_cell (sn_lst (sa_cons (se_var 5) (sa_cons (se_op op_mod od_mod (sb_of (se_callTy call_int1 cd_int (by rfl) Y.b_int PyProof.Rows.boot_int (sab_cons (sb_of (se_op op_addA od_add (sb_of (se_op op_addA od_add (sb_of (se_op op_mulA od_mul (sb_of (se_var 3)) (sb_of se_int))) (sb_of (se_op op_mod od_mod (sb_of (se_callTy call_int1 cd_int (by rfl) Y.b_int PyProof.Rows.boot_int (sab_cons (sb_of (se_var 2)) sab_nil))) (sb_of se_int))))) (sb_of se_int))) sab_nil))) (sb_of se_int)) sa_nil)))))))))) (fun _ _ _ _ => rfl), hm⟩
end
end K03
set_option Elab.async false
set_option linter.all false
set_option maxRecDepth 100000
set_option maxHeartbeats 4000000
namespace K03
open PySem PySem.Spec PyProof.Rows L2 DL LamX SR

section
variable {P : Program} {w : World} {K : PySem.W.Frag} {mg : Str → Option Value} {base : Heap}
/-! _law_draw -/
abbrev N_L_draw : List Str := [("bowl" : Str), ("many" : Str), ("figure" : Str)]
abbrev ps_L_draw : List Str := [("bowl" : Str), ("many" : Str)]
theorem sc_L_draw : FnScope N_L_draw ps_L_draw (defScope S_L_draw) := C8.fnScope_by (by decide +kernel)
theorem ok_L_draw (Y : Fx P w K mg base) : DefB P w K mg base (TT K) 1 ("_law_draw" : Str) (defArgs S_L_draw) (defBody S_L_draw) (defScope S_L_draw) ps_L_draw f_L_draw := by
  obtain ⟨f, fd, Fd, hm⟩ := Y.fd_L_draw
  exact ⟨f, fd, Fd, def_ok (mb := t_L_draw) Fd sc_L_draw (fun cdv A outer s H E F hcv hr => (sss_cons (ss_if (st_cmp op_gt od_cmp (sb_of (se_ix ix_any od_ix (sb_of (se_var 0)) (sb_of se_int) (fun _ _ => rfl))) (sb_of se_int) (nomark _)) (sss_cons (ss_asg (se_callB call_divmod cd_divmod (by rfl) Y.b_divmod PyProof.Rows.boot_divmod (sab_cons (sb_of (se_ix ix_any od_ix (sb_of (se_var 0)) (sb_of se_int) (fun _ _ => rfl))) (sab_cons (sb_of (se_var 1)) sab_nil))) (sg_tup rfl (sgs_cons (sg_subRef (se_var 0) (sb_of se_int)) (sgs_cons (sg_name 2 sc_L_draw.nd rfl (Or.inl rfl)) sgs_nil)))) (sss_one (ss_ret (se_var 2)))) sss_nil) (sss_cons (ss_asg (se_op op_mod od_mod (sb_of (se_callTy call_int1 cd_int (by rfl) Y.b_int PyProof.Rows.boot_int (sab_cons (sb_of (se_op op_addA od_add (sb_of (se_op op_mulA od_mul (sb_of (se_ix ix_any od_ix (sb_of (se_var 0)) (sb_of se_int) (fun _ _ => rfl))) (sb_of se_int))) (sb_of se_int))) sab_nil))) (sb_of se_int)) (sg_subRef (se_var 0) (sb_of se_int))) (sss_cons (ss_asg (se_op op_mod od_mod (sb_of (se_callTy call_int1 cd_int (by rfl) Y.b_int PyProof.Rows.boot_int (sab_cons (sb_of (se_op op_addA od_add (sb_of (se_op op_mulA od_mul (sb_of (se_ix ix_any od_ix (sb_of (se_var 0)) (sb_of se_int) (fun _ _ => rfl))) (sb_of se_int))) (sb_of (se_op op_fdiv od_div (sb_of (se_ix ix_any od_ix (sb_of (se_var 0)) (sb_of se_int) (fun _ _ => rfl))) (sb_of se_int))))) sab_nil))) (sb_of se_int)) (sg_subRef (se_var 0) (sb_of se_int))) (sss_one (ss_ret (se_op op_mod od_mod (sb_of (se_callTy call_int1 cd_int (by rfl) Y.b_int PyProof.Rows.boot_int (sab_cons (sb_of (se_op op_fdiv od_div (sb_of (se_ix ix_any od_ix (sb_of (se_var 0)) (sb_of se_int) (fun _ _ => rfl))) (sb_of se_int))) sab_nil))) (sb_of (se_var 1))))))))) (fun _ _ _ _ => rfl), hm⟩
/-! _law_of -/
abbrev N_L_of : List Str := [("bowl" : Str), ("some" : Str)]
abbrev ps_L_of : List Str := [("bowl" : Str), ("some" : Str)]
theorem sc_L_of : FnScope N_L_of ps_L_of (defScope S_L_of) := C8.fnScope_by (by decide +kernel)
theorem ok_L_of (Y : Fx P w K mg base) : DefB P w K mg base (TT K) 2 ("_law_of" : Str) (defArgs S_L_of) (defBody S_L_of) (defScope S_L_of) ps_L_of f_L_of := by
  obtain ⟨f, fd, Fd, hm⟩ := Y.fd_L_of
  exact ⟨f, fd, Fd, def_ok (mb := t_L_of) Fd sc_L_of (fun cdv A outer s H E F hcv hr => (sss_one (ss_ret (se_ix ix_any od_ix (sb_of (se_var 1)) (sb_of (se_callF ((ok_L_draw Y).cal 2 [] [0, 1] (fun _ _ _ _ _ _ us ws h1 h2 => match us, ws, h1, h2 with | [_, _], [], _, _ => rfl)) (hr.mono (by decide)) (takes_of rfl rfl rfl rfl) (by rfl) (sc_pos (sa_cons (se_var 0) (sa_cons (se_callB call_len cd_len (by rfl) Y.b_len boot_len (sab_cons (sb_of (se_var 1)) sab_nil)) sa_nil))))) (fun _ _ => rfl))))) (fun _ _ _ _ => rfl), hm⟩
/-! _law_same -/
abbrev N_L_same : List Str := [("told" : Str), ("due" : Str), ("k" : Str)]
abbrev ps_L_same : List Str := [("told" : Str), ("due" : Str)]
theorem sc_L_same : FnScope N_L_same ps_L_same (defScope S_L_same) := C8.fnScope_by (by decide +kernel)
theorem ok_L_same (Y : Fx P w K mg base) : ∀ n : Nat, DefB P w K mg base (TT K) (n + 1) ("_law_same" : Str) (defArgs S_L_same) (defBody S_L_same) (defScope S_L_same) ps_L_same (f_L_same n)
  | 0 => by
    obtain ⟨f, fd, Fd, hm⟩ := Y.fd_L_same
    exact ⟨f, fd, Fd, fn_stuck rfl, hm⟩
  | n + 1 => by
    have ih := ok_L_same Y n
    obtain ⟨f, fd, Fd, hm⟩ := Y.fd_L_same
    exact ⟨f, fd, Fd, def_ok (mb := t_L_same (f_L_same n)) Fd sc_L_same (fun cdv A outer s H E F hcv hr => (sss_cons (ss_if (st_w (sw_or (st_val (se_isi (by rfl) Y.b_isinstance (by rfl) Y.b_tuple PyProof.Rows.boot_tuple (sb_of (se_var 1)))) (sw_or1 (st_val (se_isi (by rfl) Y.b_isinstance (by rfl) Y.b_tuple PyProof.Rows.boot_tuple (sb_of (se_var 0))))))) (sss_cons (ss_if (st_w (sw_or (st_not (st_val (se_isi (by rfl) Y.b_isinstance (by rfl) Y.b_tuple PyProof.Rows.boot_tuple (sb_of (se_var 1))))) (sw_or (st_not (st_val (se_isi (by rfl) Y.b_isinstance (by rfl) Y.b_tuple PyProof.Rows.boot_tuple (sb_of (se_var 0))))) (sw_or1 (st_cmp (op_neD hr.units) od_ne (sb_of (se_callB call_len cd_len (by rfl) Y.b_len boot_len (sab_cons (sb_of (se_var 0)) sab_nil))) (sb_of (se_callB call_len cd_len (by rfl) Y.b_len boot_len (sab_cons (sb_of (se_var 1)) sab_nil))) (nomark _)))))) (sss_one (ss_ret se_bl)) sss_nil) (sss_one (ss_ret (se_cmp (op_eqA hr.units) od_eq (sb_of (se_new (sn_lc [(("k" : Str), 2)] rfl sc_L_same.nd (si_range1 (by rfl) Y.b_range (sab_cons (sb_of (se_callB call_len cd_len (by rfl) Y.b_len boot_len (sab_cons (sb_of (se_var 1)) sab_nil))) sab_nil)) (by exact blkOk_by (N := N_L_same) (sc := defScope S_L_same) (by decide +kernel)) (lt_name (by decide)) (fun s H C cl fp => pg_name (i := 2) sc_L_same.nd rfl (Or.inl rfl)) (fun s H C cl fp => (sts_one (st_not (st_val (se_callF ((ih).cal 2 [] [0, 1] (fun _ _ _ _ _ _ us ws h1 h2 => match us, ws, h1, h2 with | [_, _], [], _, _ => rfl)) hr L2.takes0 (by rfl) (sc_pos (sa_cons (se_ix ix_any od_ix (sb_of (se_var 0)) (sb_of (se_var 2)) (fun _ _ => rfl)) (sa_cons (se_ix ix_any od_ix (sb_of (se_var 1)) (sb_of (se_var 2)) (fun _ _ => rfl)) sa_nil)))))))) (fun s H C cl fp => (se_var 2))))) (sb_of (se_new (sn_lst sa_nil))) (nomark _))))) sss_nil) (sss_cons (ss_if (st_w (sw_or (st_cmp op_isA od_is (sb_of (se_var 1)) (sb_of se_non) (nomark _)) (sw_or1 (st_cmp op_isA od_is (sb_of (se_var 0)) (sb_of se_non) (nomark _))))) (sss_one (ss_ret (se_and (se_cmp op_isA od_is (sb_of (se_var 1)) (sb_of se_non) (nomark _)) (se_one (se_cmp op_isA od_is (sb_of (se_var 0)) (sb_of se_non) (nomark _)))))) sss_nil) (sss_cons (ss_if (st_w (sw_or (st_cmp (op_neD hr.units) od_ne (sb_of (se_isi (by rfl) Y.b_isinstance (by rfl) Y.b_bool PyProof.Rows.boot_bool (sb_of (se_var 1)))) (sb_of (se_isi (by rfl) Y.b_isinstance (by rfl) Y.b_bool PyProof.Rows.boot_bool (sb_of (se_var 0)))) (nomark _)) (sw_or (st_cmp (op_neD hr.units) od_ne (sb_of (se_isi (by rfl) Y.b_isinstance (by rfl) Y.b_int PyProof.Rows.boot_int (sb_of (se_var 1)))) (sb_of (se_isi (by rfl) Y.b_isinstance (by rfl) Y.b_int PyProof.Rows.boot_int (sb_of (se_var 0)))) (nomark _)) (sw_or1 (st_cmp (op_neD hr.units) od_ne (sb_of (se_isi (by rfl) Y.b_isinstance (by rfl) Y.b_str PyProof.Rows.boot_str (sb_of (se_var 1)))) (sb_of (se_isi (by rfl) Y.b_isinstance (by rfl) Y.b_str PyProof.Rows.boot_str (sb_of (se_var 0)))) (nomark _)))))) (sss_one (ss_ret se_bl)) sss_nil) (sss_one (ss_ret (se_cmp op_isA od_is (sb_of (se_cmp (op_eqA hr.units) od_eq (sb_of (se_var 0)) (sb_of (se_var 1)) (nomark _))) (sb_of se_bl) (nomark _)))))))) (fun _ _ _ _ => rfl), hm⟩
/-! _law_rule -/
abbrev N_L_rule : List Str := [("bowl" : Str), ("p" : Str), ("most" : Str), ("many" : Str), ("way" : Str), ("late" : Str), ("k" : Str)]
abbrev ps_L_rule : List Str := [("bowl" : Str), ("p" : Str), ("most" : Str)]
theorem sc_L_rule : FnScope N_L_rule ps_L_rule (defScope S_L_rule) := C8.fnScope_by (by decide +kernel)
theorem ok_L_rule (Y : Fx P w K mg base) : DefB P w K mg base (TT K) 3 ("_law_rule" : Str) (defArgs S_L_rule) (defBody S_L_rule) (defScope S_L_rule) ps_L_rule f_L_rule := by
  obtain ⟨f, fd, Fd, hm⟩ := Y.fd_L_rule
  exact ⟨f, fd, Fd, def_ok (mb := t_L_rule) Fd sc_L_rule (fun cdv A outer s H E F hcv hr => (sss_cons (ss_set 3 sc_L_rule.nd rfl (Or.inl rfl) (se_callF ((ok_L_draw Y).cal 2 [] [0, 1] (fun _ _ _ _ _ _ us ws h1 h2 => match us, ws, h1, h2 with | [_, _], [], _, _ => rfl)) (hr.mono (by decide)) (takes_of rfl rfl rfl rfl) (by rfl) (sc_pos (sa_cons (se_var 0) (sa_cons (se_op op_addA od_add (sb_of (se_var 2)) (sb_of se_int)) sa_nil))))) (sss_cons (ss_set 4 sc_L_rule.nd rfl (Or.inl rfl) (se_callF ((ok_L_draw Y).cal 2 [] [0, 1] (fun _ _ _ _ _ _ us ws h1 h2 => match us, ws, h1, h2 with | [_, _], [], _, _ => rfl)) (hr.mono (by decide)) (takes_of rfl rfl rfl rfl) (by rfl) (sc_pos (sa_cons (se_var 0) (sa_cons se_int sa_nil))))) (sss_cons (ss_if (st_cmp (op_eqA hr.units) od_eq (sb_of (se_var 4)) (sb_of se_int) (nomark _)) (sss_cons (ss_set 5 sc_L_rule.nd rfl (Or.inl rfl) (se_callF ((ok_L_draw Y).cal 2 [] [0, 1] (fun _ _ _ _ _ _ us ws h1 h2 => match us, ws, h1, h2 with | [_, _], [], _, _ => rfl)) (hr.mono (by decide)) (takes_of rfl rfl rfl rfl) (by rfl) (sc_pos (sa_cons (se_var 0) (sa_cons (se_op op_addA od_add (sb_of (se_var 3)) (sb_of se_int)) sa_nil))))) (sss_one (ss_ret (se_op op_addA od_add (sb_of (se_op op_mulA od_mul (sb_of (se_tup (sa_cons se_int sa_nil))) (sb_of (se_var 5)))) (sb_of (se_callTy call_tuple_of cd_tuple (by rfl) Y.b_tuple PyProof.Rows.boot_tuple (sab_cons (sb_of (se_new (sn_lc [(("k" : Str), 6)] rfl sc_L_rule.nd (si_range1 (by rfl) Y.b_range (sab_cons (sb_of (se_op op_sub od_sub (sb_of (se_var 3)) (sb_of (se_var 5)))) sab_nil)) (by exact blkOk_by (N := N_L_rule) (sc := defScope S_L_rule) (by decide +kernel)) (lt_name (by decide)) (fun s H C cl fp => pg_name (i := 6) sc_L_rule.nd rfl (Or.inl rfl)) (fun s H C cl fp => sts_nil) (fun s H C cl fp => (se_op op_addA od_add (sb_of se_int) (sb_of (se_callF ((ok_L_draw Y).cal 2 [] [0, 1] (fun _ _ _ _ _ _ us ws h1 h2 => match us, ws, h1, h2 with | [_, _], [], _, _ => rfl)) (hr.mono (by decide)) L2.takes0 (by rfl) (sc_pos (sa_cons (se_var 0) (sa_cons (se_op op_sub od_sub (sb_of (se_var 1)) (sb_of se_int)) sa_nil)))))))))) sab_nil))))))) sss_nil) (sss_cons (ss_if (st_cmp (op_eqA hr.units) od_eq (sb_of (se_var 4)) (sb_of se_int) (nomark _)) (sss_one (ss_ret (se_callTy call_tuple_of cd_tuple (by rfl) Y.b_tuple PyProof.Rows.boot_tuple (sab_cons (sb_of (se_new (sn_lc [(("k" : Str), 6)] rfl sc_L_rule.nd (si_range1 (by rfl) Y.b_range (sab_cons (sb_of (se_var 3)) sab_nil)) (by exact blkOk_by (N := N_L_rule) (sc := defScope S_L_rule) (by decide +kernel)) (lt_name (by decide)) (fun s H C cl fp => pg_name (i := 6) sc_L_rule.nd rfl (Or.inl rfl)) (fun s H C cl fp => sts_nil) (fun s H C cl fp => (se_callF ((ok_L_of Y).cal 2 [] [0, 1] (fun _ _ _ _ _ _ us ws h1 h2 => match us, ws, h1, h2 with | [_, _], [], _, _ => rfl)) (hr.mono (by decide)) L2.takes0 (by rfl) (sc_pos (sa_cons (se_var 0) (sa_cons (se_tup (sa_cons se_int (sa_cons se_int (sa_cons se_int (sa_cons (se_op op_sub od_sub (sb_of (se_var 1)) (sb_of se_int)) sa_nil))))) sa_nil)))))))) sab_nil)))) sss_nil) (sss_cons (ss_if (st_cmp (op_eqA hr.units) od_eq (sb_of (se_var 4)) (sb_of se_int) (nomark _)) (sss_one (ss_ret (se_op op_mulA od_mul (sb_of (se_tup (sa_cons (se_callF ((ok_L_draw Y).cal 2 [] [0, 1] (fun _ _ _ _ _ _ us ws h1 h2 => match us, ws, h1, h2 with | [_, _], [], _, _ => rfl)) (hr.mono (by decide)) (takes_of rfl rfl rfl rfl) (by rfl) (sc_pos (sa_cons (se_var 0) (sa_cons (se_var 1) sa_nil)))) sa_nil))) (sb_of (se_var 3))))) sss_nil) (sss_one (ss_ret (se_callTy call_tuple_of cd_tuple (by rfl) Y.b_tuple PyProof.Rows.boot_tuple (sab_cons (sb_of (se_new (sn_lc [(("k" : Str), 6)] rfl sc_L_rule.nd (si_range1 (by rfl) Y.b_range (sab_cons (sb_of (se_var 3)) sab_nil)) (by exact blkOk_by (N := N_L_rule) (sc := defScope S_L_rule) (by decide +kernel)) (lt_name (by decide)) (fun s H C cl fp => pg_name (i := 6) sc_L_rule.nd rfl (Or.inl rfl)) (fun s H C cl fp => sts_nil) (fun s H C cl fp => (se_callF ((ok_L_draw Y).cal 2 [] [0, 1] (fun _ _ _ _ _ _ us ws h1 h2 => match us, ws, h1, h2 with | [_, _], [], _, _ => rfl)) (hr.mono (by decide)) L2.takes0 (by rfl) (sc_pos (sa_cons (se_var 0) (sa_cons (se_var 1) sa_nil)))))))) sab_nil)))))))))) (fun _ _ _ _ => rfl), hm⟩
/-! _law_go -/
abbrev N_L_go : List Str := [("p" : Str), ("row" : Str), ("rule" : Str), ("many" : Str), ("found" : Str), ("turn" : Str), ("behind" : Str), ("a" : Str), ("b" : Str)]
abbrev ps_L_go : List Str := [("p" : Str), ("row" : Str), ("rule" : Str), ("many" : Str)]
theorem sc_L_go : FnScope N_L_go ps_L_go (defScope S_L_go) := C8.fnScope_by (by decide +kernel)
theorem ok_L_go (Y : Fx P w K mg base) : DefB P w K mg base (TT K) 1 ("_law_go" : Str) (defArgs S_L_go) (defBody S_L_go) (defScope S_L_go) ps_L_go f_L_go := by
  obtain ⟨f, fd, Fd, hm⟩ := Y.fd_L_go
  exact ⟨f, fd, Fd, def_ok (mb := t_L_go) Fd sc_L_go (fun cdv A outer s H E F hcv hr => (sss_cons (ss_setOwn 4 sc_L_go.nd rfl (Or.inl rfl) (sn_list (by rfl) Y.b_list (sb_of (se_var 1)))) (sss_cons (ss_for (passes_of (K := fun e s'' => L2.CX P w outer H s E e s'') rfl) rfl (si_range1 (by rfl) Y.b_range (sab_cons (sb_of (se_var 3)) sab_nil)) (sg_name 5 sc_L_go.nd rfl (Or.inl rfl)) (sss_cons (ss_set 6 sc_L_go.nd rfl (Or.inl rfl) (se_slice (sb_own 4) (so_some (sb_of (se_op op_sub od_sub (sb_of (se_callB call_len cd_len (by rfl) Y.b_len boot_len (sab_cons (sb_own 4) sab_nil))) (sb_of (se_callB call_len cd_len (by rfl) Y.b_len boot_len (sab_cons (sb_of (se_var 2)) sab_nil)))))) so_none)) (sss_one (ss_appOwn 4 (se_op op_mod od_mod (sb_of (se_callTy call_int1 cd_int (by rfl) Y.b_int PyProof.Rows.boot_int (sab_cons (sb_of (se_callB (cr_sum rfl) cd_sum (by rfl) Y.b_sum PyProof.Rows.boot_sum (sab_cons (sb_of (se_new (sn_lc [(("a" : Str), 7), (("b" : Str), 8)] rfl sc_L_go.nd (si_zip (by rfl) Y.b_zip (sa_cons (se_var 2) (sa_cons (se_var 6) sa_nil))) (by exact blkOk_by (N := N_L_go) (sc := defScope S_L_go) (by decide +kernel)) (lt_two (by decide) (by decide)) (fun s H C cl fp => pg_tup rfl (pgs_cons (pg_name (i := 7) sc_L_go.nd rfl (Or.inl rfl)) (pgs_cons (pg_name (i := 8) sc_L_go.nd rfl (Or.inl rfl)) pgs_nil))) (fun s H C cl fp => sts_nil) (fun s H C cl fp => (se_op op_mulA od_mul (sb_of (se_var 7)) (sb_of (se_var 8))))))) sab_nil))) sab_nil))) (sb_of (se_var 0))))))) (sss_one (ss_ret (se_callTy call_tuple_of cd_tuple (by rfl) Y.b_tuple PyProof.Rows.boot_tuple (sab_cons (sb_own 4) sab_nil))))))) (fun _ _ _ _ => rfl), hm⟩
/-! _law_register -/
abbrev N_L_register : List Str := [("bowl" : Str), ("p" : Str), ("most" : Str), ("rule" : Str), ("start" : Str), ("k" : Str)]
abbrev ps_L_register : List Str := [("bowl" : Str), ("p" : Str), ("most" : Str)]
theorem sc_L_register : FnScope N_L_register ps_L_register (defScope S_L_register) := C8.fnScope_by (by decide +kernel)
theorem ok_L_register (Y : Fx P w K mg base) : DefB P w K mg base (TT K) 4 ("_law_register" : Str) (defArgs S_L_register) (defBody S_L_register) (defScope S_L_register) ps_L_register f_L_register := by
  obtain ⟨f, fd, Fd, hm⟩ := Y.fd_L_register
  exact ⟨f, fd, Fd, def_ok (mb := t_L_register) Fd sc_L_register (fun cdv A outer s H E F hcv hr => (sss_cons (ss_set 3 sc_L_register.nd rfl (Or.inl rfl) (se_callF ((ok_L_rule Y).cal 3 [] [0, 1, 2] (fun _ _ _ _ _ _ us ws h1 h2 => match us, ws, h1, h2 with | [_, _, _], [], _, _ => rfl)) (hr.mono (by decide)) (takes_of rfl rfl rfl rfl) (by rfl) (sc_pos (sa_cons (se_var 0) (sa_cons (se_var 1) (sa_cons (se_var 2) sa_nil)))))) (sss_cons (ss_set 4 sc_L_register.nd rfl (Or.inl rfl) (se_if (st_cmp op_gt od_cmp (sb_of (se_callF ((ok_L_draw Y).cal 2 [] [0, 1] (fun _ _ _ _ _ _ us ws h1 h2 => match us, ws, h1, h2 with | [_, _], [], _, _ => rfl)) (hr.mono (by decide)) (takes_of rfl rfl rfl rfl) (by rfl) (sc_pos (sa_cons (se_var 0) (sa_cons se_int sa_nil))))) (sb_of se_int) (nomark _)) (se_callTy call_tuple_of cd_tuple (by rfl) Y.b_tuple PyProof.Rows.boot_tuple (sab_cons (sb_of (se_new (sn_lc [(("k" : Str), 5)] rfl sc_L_register.nd (si_range1 (by rfl) Y.b_range (sab_cons (sb_of (se_callB call_len cd_len (by rfl) Y.b_len boot_len (sab_cons (sb_of (se_var 3)) sab_nil))) sab_nil)) (by exact blkOk_by (N := N_L_register) (sc := defScope S_L_register) (by decide +kernel)) (lt_name (by decide)) (fun s H C cl fp => pg_name (i := 5) sc_L_register.nd rfl (Or.inl rfl)) (fun s H C cl fp => sts_nil) (fun s H C cl fp => (se_callF ((ok_L_draw Y).cal 2 [] [0, 1] (fun _ _ _ _ _ _ us ws h1 h2 => match us, ws, h1, h2 with | [_, _], [], _, _ => rfl)) (hr.mono (by decide)) L2.takes0 (by rfl) (sc_pos (sa_cons (se_var 0) (sa_cons (se_var 1) sa_nil)))))))) sab_nil)) (se_op op_addA od_add (sb_of (se_op op_mulA od_mul (sb_of (se_tup (sa_cons se_int sa_nil))) (sb_of (se_callB (call_max2 rfl) cd_2i (by rfl) Y.b_max PyProof.Rows.boot_max (sab_cons (sb_of se_int) (sab_cons (sb_of (se_op op_sub od_sub (sb_of (se_callB call_len cd_len (by rfl) Y.b_len boot_len (sab_cons (sb_of (se_var 3)) sab_nil))) (sb_of se_int))) sab_nil)))))) (sb_of (se_op op_mulA od_mul (sb_of (se_tup (sa_cons se_int sa_nil))) (sb_of (se_callB (call_min2 rfl) cd_2i (by rfl) Y.b_min PyProof.Rows.boot_min (sab_cons (sb_of se_int) (sab_cons (sb_of (se_callB call_len cd_len (by rfl) Y.b_len boot_len (sab_cons (sb_of (se_var 3)) sab_nil))) sab_nil))))))))) (sss_one (ss_ret (se_tup (sa_cons (se_var 1) (sa_cons (se_var 3) (sa_cons (se_var 4) sa_nil))))))))) (fun _ _ _ _ => rfl), hm⟩
/-! _law_first -/
abbrev N_L_first : List Str := [("parts" : Str), ("many" : Str)]
abbrev ps_L_first : List Str := [("parts" : Str), ("many" : Str)]
theorem sc_L_first : FnScope N_L_first ps_L_first (defScope S_L_first) := C8.fnScope_by (by decide +kernel)
theorem ok_L_first (Y : Fx P w K mg base) : DefB P w K mg base (TT K) 2 ("_law_first" : Str) (defArgs S_L_first) (defBody S_L_first) (defScope S_L_first) ps_L_first f_L_first := by
  obtain ⟨f, fd, Fd, hm⟩ := Y.fd_L_first
  exact ⟨f, fd, Fd, def_ok (mb := t_L_first) Fd sc_L_first (fun cdv A outer s H E F hcv hr => (sss_one (ss_ret (se_slice (sb_of (se_callF ((ok_L_go Y).cal 4 [] [0, 1, 2, 3] (fun _ _ _ _ _ _ us ws h1 h2 => match us, ws, h1, h2 with | [_, _, _, _], [], _, _ => rfl)) (hr.mono (by decide)) (takes_of rfl rfl rfl rfl) (by rfl) (sc_pos (sa_cons (se_ix ix_any od_ix (sb_of (se_var 0)) (sb_of se_int) (fun _ _ => rfl)) (sa_cons (se_ix ix_any od_ix (sb_of (se_var 0)) (sb_of se_int) (fun _ _ => rfl)) (sa_cons (se_ix ix_any od_ix (sb_of (se_var 0)) (sb_of se_int) (fun _ _ => rfl)) (sa_cons (se_callB (call_max2 rfl) cd_2i (by rfl) Y.b_max PyProof.Rows.boot_max (sab_cons (sb_of se_int) (sab_cons (sb_of (se_op op_sub od_sub (sb_of (se_var 1)) (sb_of (se_callB call_len cd_len (by rfl) Y.b_len boot_len (sab_cons (sb_of (se_ix ix_any od_ix (sb_of (se_var 0)) (sb_of se_int) (fun _ _ => rfl))) sab_nil))))) sab_nil))) sa_nil))))))) so_none (so_some (sb_of (se_var 1))))))) (fun _ _ _ _ => rfl), hm⟩
/-! _law_made -/
abbrev N_L_made : List Str := [("parts" : Str)]
abbrev ps_L_made : List Str := [("parts" : Str)]
theorem sc_L_made : FnScope N_L_made ps_L_made (defScope S_L_made) := C8.fnScope_by (by decide +kernel)
theorem ok_L_made (Y : Fx P w K mg base) : DefB P w K mg base (TT K) 12 ("_law_made" : Str) (defArgs S_L_made) (defBody S_L_made) (defScope S_L_made) ps_L_made f_L_made := by
  obtain ⟨f, fd, Fd, hm⟩ := Y.fd_L_made
  exact ⟨f, fd, Fd, def_ok (mb := t_L_made) Fd sc_L_made (fun cdv A outer s H E F hcv hr => (sss_one (ss_ret (se_make (mak_Register Y 3 [] [0, 1, 2, 3] (fun _ _ _ _ _ _ us ws h1 h2 => match us, ws, h1, h2 with | [_, _, _, _], [], _, _ => rfl)) (hr.mono (by decide)) (takes_of rfl rfl rfl rfl) (by rfl) (sc_pos (sa_cons (se_ix ix_any od_ix (sb_of (se_var 0)) (sb_of se_int) (fun _ _ => rfl)) (sa_cons (se_ix ix_any od_ix (sb_of (se_var 0)) (sb_of se_int) (fun _ _ => rfl)) (sa_cons (se_ix ix_any od_ix (sb_of (se_var 0)) (sb_of se_int) (fun _ _ => rfl)) sa_nil)))))))) (fun _ _ _ _ => rfl), hm⟩
/-! _law_odd_modulus -/
abbrev N_L_odd_modulus : List Str := [("bowl" : Str)]
abbrev ps_L_odd_modulus : List Str := [("bowl" : Str)]
theorem sc_L_odd_modulus : FnScope N_L_odd_modulus ps_L_odd_modulus (defScope S_L_odd_modulus) := C8.fnScope_by (by decide +kernel)
theorem ok_L_odd_modulus (Y : Fx P w K mg base) : DefB P w K mg base (TT K) 3 ("_law_odd_modulus" : Str) (defArgs S_L_odd_modulus) (defBody S_L_odd_modulus) (defScope S_L_odd_modulus) ps_L_odd_modulus f_L_odd_modulus := by
  obtain ⟨f, fd, Fd, hm⟩ := Y.fd_L_odd_modulus
  exact ⟨f, fd, Fd, def_ok (mb := t_L_odd_modulus) Fd sc_L_odd_modulus (fun cdv A outer s H E F hcv hr => (sss_one (ss_ret (se_callF ((ok_L_of Y).cal 2 [] [0, 1] (fun _ _ _ _ _ _ us ws h1 h2 => match us, ws, h1, h2 with | [_, _], [], _, _ => rfl)) (hr.mono (by decide)) (takes_of rfl rfl rfl rfl) (by rfl) (sc_pos (sa_cons (se_var 0) (sa_cons (se_tup (sa_cons se_non (sa_cons se_int (sa_cons se_int (sa_cons se_int (sa_cons se_int (sa_cons se_int (sa_cons se_bl (sa_cons se_str (sa_cons (se_tup (sa_cons se_int sa_nil)) (sa_cons (se_new (sn_lst (sa_cons se_int sa_nil))) (sa_cons (se_op op_sub od_sub (sb_of se_int) (sb_of se_int)) (sa_cons se_int (sa_cons se_emp sa_nil)))))))))))))) sa_nil))))))) (fun _ _ _ _ => rfl), hm⟩
end
end K03
set_option Elab.async false
set_option linter.all false
set_option maxRecDepth 100000
set_option maxHeartbeats 4000000
namespace K03
open PySem PySem.Spec PyProof.Rows L2 DL LamX SR

section
variable {P : Program} {w : World} {K : PySem.W.Frag} {mg : Str → Option Value} {base : Heap}
/-! _law_odd_values -/
abbrev N_L_odd_values : List Str := [("bowl" : Str), ("p" : Str), ("row" : Str), ("most" : Str), ("at" : Str), ("bad" : Str), ("some" : Str)]
abbrev ps_L_odd_values : List Str := [("bowl" : Str), ("p" : Str), ("row" : Str), ("most" : Str)]
theorem sc_L_odd_values : FnScope N_L_odd_values ps_L_odd_values (defScope S_L_odd_values) := C8.fnScope_by (by decide +kernel)
theorem ok_L_odd_values (Y : Fx P w K mg base) : DefB P w K mg base (TT K) 3 ("_law_odd_values" : Str) (defArgs S_L_odd_values) (defBody S_L_odd_values) (defScope S_L_odd_values) ps_L_odd_values f_L_odd_values := by
  obtain ⟨f, fd, Fd, hm⟩ := Y.fd_L_odd_values
  exact ⟨f, fd, Fd, def_ok (mb := t_L_odd_values) Fd sc_L_odd_values (fun cdv A outer s H E F hcv hr => (sss_cons (ss_set 4 sc_L_odd_values.nd rfl (Or.inl rfl) (se_callF ((ok_L_draw Y).cal 2 [] [0, 1] (fun _ _ _ _ _ _ us ws h1 h2 => match us, ws, h1, h2 with | [_, _], [], _, _ => rfl)) (hr.mono (by decide)) (takes_of rfl rfl rfl rfl) (by rfl) (sc_pos (sa_cons (se_var 0) (sa_cons (se_op op_addA od_add (sb_of (se_callB call_len cd_len (by rfl) Y.b_len boot_len (sab_cons (sb_of (se_var 2)) sab_nil))) (sb_of se_int)) sa_nil))))) (sss_cons (ss_set 5 sc_L_odd_values.nd rfl (Or.inl rfl) (se_callF ((ok_L_of Y).cal 2 [] [0, 1] (fun _ _ _ _ _ _ us ws h1 h2 => match us, ws, h1, h2 with | [_, _], [], _, _ => rfl)) (hr.mono (by decide)) (takes_of rfl rfl rfl rfl) (by rfl) (sc_pos (sa_cons (se_var 0) (sa_cons (se_tup (sa_cons se_non (sa_cons (se_var 1) (sa_cons (se_op op_sub od_sub (sb_of se_int) (sb_of se_int)) (sa_cons se_bl (sa_cons se_str (sa_cons (se_tup (sa_cons se_int sa_nil)) (sa_cons (se_new (sn_lst (sa_cons se_int sa_nil))) (sa_cons (se_op op_addA od_add (sb_of (se_var 1)) (sb_of se_int)) (sa_cons se_bl sa_nil)))))))))) sa_nil))))) (sss_cons (ss_set 6 sc_L_odd_values.nd rfl (Or.inl rfl) (se_new (sn_lst (sa_cons (se_tup (sa_cons se_non (sa_cons se_non sa_nil))) (sa_cons (se_tup (sa_cons se_int (sa_cons se_non sa_nil))) (sa_cons (se_tup (sa_cons (se_new (sn_list (by rfl) Y.b_list (sb_of (se_var 2)))) (sa_cons se_non sa_nil))) (sa_cons (se_tup (sa_cons se_str (sa_cons se_non sa_nil))) (sa_cons (se_tup (sa_cons se_emp (sa_cons se_non sa_nil))) (sa_cons (se_tup (sa_cons se_bl (sa_cons se_non sa_nil))) (sa_cons (se_tup (sa_cons (se_op op_addA od_add (sb_of (se_op op_mulA od_mul (sb_of (se_tup (sa_cons se_int sa_nil))) (sb_of (se_var 3)))) (sb_of (se_tup (sa_cons se_int sa_nil)))) (sa_cons (se_var 3) sa_nil))) (sa_cons (se_tup (sa_cons (se_op op_addA od_add (sb_of (se_op op_mulA od_mul (sb_of (se_tup (sa_cons se_int sa_nil))) (sb_of (se_var 3)))) (sb_of (se_tup (sa_cons se_non (sa_cons se_int sa_nil))))) (sa_cons (se_var 3) sa_nil))) sa_nil))))))))))) (sss_one (ss_ret (se_callF ((ok_L_of Y).cal 2 [] [0, 1] (fun _ _ _ _ _ _ us ws h1 h2 => match us, ws, h1, h2 with | [_, _], [], _, _ => rfl)) (hr.mono (by decide)) (takes_of rfl rfl rfl rfl) (by rfl) (sc_pos (sa_cons (se_var 0) (sa_cons (se_new (sn_add (sb_of (se_var 6)) (sb_of (se_new (sn_mul (sb_of (se_new (sn_lst (sa_cons (se_tup (sa_cons (se_op op_addA od_add (sb_of (se_op op_addA od_add (sb_of (se_op op_addA od_add (sb_of (se_slice (sb_of (se_var 2)) so_none (so_some (sb_of (se_var 4))))) (sb_of (se_tup (sa_cons (se_var 5) sa_nil))))) (sb_of (se_slice (sb_of (se_var 2)) (so_some (sb_of (se_var 4))) so_none)))) (sb_of (se_tup (sa_cons se_int sa_nil)))) (sa_cons (se_var 4) sa_nil))) (sa_cons (se_tup (sa_cons (se_op op_addA od_add (sb_of (se_op op_addA od_add (sb_of (se_slice (sb_of (se_var 2)) so_none (so_some (sb_of (se_var 4))))) (sb_of (se_tup (sa_cons (se_var 5) sa_nil))))) (sb_of (se_slice (sb_of (se_var 2)) (so_some (sb_of (se_op op_addA od_add (sb_of (se_var 4)) (sb_of se_int)))) so_none))) (sa_cons (se_var 4) sa_nil))) sa_nil))))) (sb_of se_int)))))) sa_nil)))))))))) (fun _ _ _ _ => rfl), hm⟩
/-! _law_kept -/
abbrev N_L_kept : List Str := [("act" : Str), ("e" : Str), ("flags" : Str), ("words" : Str), ("at" : Str)]
abbrev ps_L_kept : List Str := [("act" : Str)]
theorem sc_L_kept : FnScope N_L_kept ps_L_kept (defScope S_L_kept) := C8.fnScope_by (by decide +kernel)
def tb_L_kept (f : Addr) (act : MF) : MS := mDrop (mApp 0 f 0 act (mNil))
def ts_L_kept (a dd : Addr) (c0 : Str) (p : Pay) : MS := mSeq (mSet 2 (mLsV (mNewL (mCons (mIsE a dd p (isX c0 ("InvalidNumber" : Str)) (mVar 1)) (mCons (mIsE a dd p (isX c0 ("NotARegister" : Str)) (mVar 1)) (mCons (mIsE a dd p (isX c0 ("InvalidRule" : Str)) (mVar 1)) (mNil))))))) (mSeq (mSet 2 (mLsV (mNewAdd (mVar 2) (mLsV (mNewL (mCons (mIsE a dd p (isX c0 ("InvalidStart" : Str)) (mVar 1)) (mNil))))))) (mSeq (mSet 3 (mLsV (mNewL (mCons (mC (.str ("number" : Str))) (mCons (mC (.str ("notaregister" : Str))) (mCons (mC (.str ("rule" : Str))) (mCons (mC (.str ("start" : Str))) (mNil)))))))) (mSeq (mSet 4 (mIf (mAndT (mTest (mOp dEq (mMethL cntB (mVar 2) (mCons (mC (.bl true)) (mNil))) (mC (.int 1)))) (mTest (mIsE a dd p (some true) (mVar 1)))) (mMethL idxB (mVar 2) (mCons (mC (.bl true)) (mNil))) (mOp dSub (mC (.int 0)) (mC (.int 1))))) (mSeq (mIfS (mTest (mOp (dCmp fun i j => decide (i < j)) (mVar 4) (mC (.int 0)))) (mRet (mTup (mCons (mC (.str ("odd" : Str))) (mCons (mC .non) (mNil))))) (mNext)) (mRet (mTup (mCons (mOp dIx (mVar 3) (mVar 4)) (mCons (mIf (mTest (mOp (dCmp fun i j => decide (i < j)) (mVar 4) (mC (.int 2)))) (mXfP a dd p ("given" : Str) (mVar 1)) (mXfP a dd p ("index" : Str) (mVar 1))) (mNil)))))))))
theorem ts_L_kept_InvalidNumber (a dd : Addr) (d : D) (e : En) (S : Sto) (he : e.length = 5) : ts_L_kept a dd ("InvalidNumber" : Str) (some (("given" : Str), d)) (e.set 1 (.val (exD a dd (some (("given" : Str), d))))) S = .rt (.tup [.str ("number" : Str), d]) S := by
  match e, he with
  | [x0, x1, x2, x3, x4], _ =>
    have h0 : isX ("InvalidNumber" : Str) ("InvalidNumber" : Str) = some true := by decide +kernel
    have h1 : isX ("InvalidNumber" : Str) ("NotARegister" : Str) = some false := by decide +kernel
    have h2 : isX ("InvalidNumber" : Str) ("InvalidRule" : Str) = some false := by decide +kernel
    have h3 : isX ("InvalidNumber" : Str) ("InvalidStart" : Str) = some false := by decide +kernel
    simp [ts_L_kept, mIsE, exD, h0, h1, h2, h3, mMethL, cntB, idxB, toBls, dCmp, dIx, atI, ixN, mXfP, mXf, List.idxOf, List.findIdx_cons, mNewAdd, lsOf]
theorem ts_L_kept_NotARegister (a dd : Addr) (d : D) (e : En) (S : Sto) (he : e.length = 5) : ts_L_kept a dd ("NotARegister" : Str) (some (("given" : Str), d)) (e.set 1 (.val (exD a dd (some (("given" : Str), d))))) S = .rt (.tup [.str ("notaregister" : Str), d]) S := by
  match e, he with
  | [x0, x1, x2, x3, x4], _ =>
    have h0 : isX ("NotARegister" : Str) ("InvalidNumber" : Str) = some false := by decide +kernel
    have h1 : isX ("NotARegister" : Str) ("NotARegister" : Str) = some true := by decide +kernel
    have h2 : isX ("NotARegister" : Str) ("InvalidRule" : Str) = some false := by decide +kernel
    have h3 : isX ("NotARegister" : Str) ("InvalidStart" : Str) = some false := by decide +kernel
    simp [ts_L_kept, mIsE, exD, h0, h1, h2, h3, mMethL, cntB, idxB, toBls, dCmp, dIx, atI, ixN, mXfP, mXf, List.idxOf, List.findIdx_cons, mNewAdd, lsOf]
theorem ts_L_kept_InvalidRule (a dd : Addr) (d : D) (e : En) (S : Sto) (he : e.length = 5) : ts_L_kept a dd ("InvalidRule" : Str) (some (("index" : Str), d)) (e.set 1 (.val (exD a dd (some (("index" : Str), d))))) S = .rt (.tup [.str ("rule" : Str), d]) S := by
  match e, he with
  | [x0, x1, x2, x3, x4], _ =>
    have h0 : isX ("InvalidRule" : Str) ("InvalidNumber" : Str) = some false := by decide +kernel
    have h1 : isX ("InvalidRule" : Str) ("NotARegister" : Str) = some false := by decide +kernel
    have h2 : isX ("InvalidRule" : Str) ("InvalidRule" : Str) = some true := by decide +kernel
    have h3 : isX ("InvalidRule" : Str) ("InvalidStart" : Str) = some false := by decide +kernel
    simp [ts_L_kept, mIsE, exD, h0, h1, h2, h3, mMethL, cntB, idxB, toBls, dCmp, dIx, atI, ixN, mXfP, mXf, List.idxOf, List.findIdx_cons, mNewAdd, lsOf]
theorem ts_L_kept_InvalidStart (a dd : Addr) (d : D) (e : En) (S : Sto) (he : e.length = 5) : ts_L_kept a dd ("InvalidStart" : Str) (some (("index" : Str), d)) (e.set 1 (.val (exD a dd (some (("index" : Str), d))))) S = .rt (.tup [.str ("start" : Str), d]) S := by
  match e, he with
  | [x0, x1, x2, x3, x4], _ =>
    have h0 : isX ("InvalidStart" : Str) ("InvalidNumber" : Str) = some false := by decide +kernel
    have h1 : isX ("InvalidStart" : Str) ("NotARegister" : Str) = some false := by decide +kernel
    have h2 : isX ("InvalidStart" : Str) ("InvalidRule" : Str) = some false := by decide +kernel
    have h3 : isX ("InvalidStart" : Str) ("InvalidStart" : Str) = some true := by decide +kernel
    simp [ts_L_kept, mIsE, exD, h0, h1, h2, h3, mMethL, cntB, idxB, toBls, dCmp, dIx, atI, ixN, mXfP, mXf, List.idxOf, List.findIdx_cons, mNewAdd, lsOf]
theorem ts_v_L_kept (a dd : Addr) {c : Str} {p : Pay} {d : D} (e : En) (S : Sto) (h : vX_L_kept_v3 c p = some d) (he : e.length = 5) : tkX c = some true ∧ ts_L_kept a dd c p (e.set 1 (.val (exD a dd p))) S = .rt d S := by
  unfold vX_L_kept_v3 at h
  cases p with
  | none =>
    dsimp only at h
    cases h
  | some q =>
    obtain ⟨f, d0⟩ := q
    dsimp only at h
    split at h
    · rename_i hc
      cases h
      rw [hc.1, hc.2]
      exact ⟨by decide +kernel, ts_L_kept_InvalidNumber a dd d0 e S he⟩
    · skip
      split at h
      · rename_i hc
        cases h
        rw [hc.1, hc.2]
        exact ⟨by decide +kernel, ts_L_kept_NotARegister a dd d0 e S he⟩
      · skip
        split at h
        · rename_i hc
          cases h
          rw [hc.1, hc.2]
          exact ⟨by decide +kernel, ts_L_kept_InvalidRule a dd d0 e S he⟩
        · skip
          split at h
          · rename_i hc
            cases h
            rw [hc.1, hc.2]
            exact ⟨by decide +kernel, ts_L_kept_InvalidStart a dd d0 e S he⟩
          · skip
            cases h
def tm_L_kept (f : Addr) (act : MF) : MS := fun e S => match tb_L_kept f act e S with
  | .exn c p e1 S1 => (match vX_L_kept_v3 c p with
    | some d => if e1.length = 5 then .rt d S1 else .stuck
    | none => .stuck)
  | r => r
theorem hm_L_kept (f : Addr) (act : MF) (a dd : Addr) (e : En) (S : Sto) (h : tm_L_kept f act e S ≠ .stuck) : mTry 1 tkX (tb_L_kept f act) ts_L_kept a dd e S = tm_L_kept f act e S := by
  unfold tm_L_kept at h ⊢
  unfold mTry
  cases eb : tb_L_kept f act e S with
  | exn c p e1 S1 =>
    simp only [eb] at h ⊢
    cases hv : vX_L_kept_v3 c p with
    | none => simp only [hv] at h; exact absurd rfl h
    | some d =>
      simp only [hv] at h ⊢
      by_cases hl : e1.length = 5
      · obtain ⟨h1, h2⟩ := ts_v_L_kept a dd e1 S1 hv hl
        simp only [h1, h2, if_pos hl]
      · rw [if_neg hl] at h
        exact absurd rfl h
  | _ => rfl
def t_L_kept (f : Addr) (act : MF) : MS := mSeq (tm_L_kept f act) (mRet (mTup (mCons (mC (.str ("none" : Str))) (mCons (mC .non) (mNil)))))
theorem eq_L_kept (f : Addr) (act : MF) (ds : List D) (S : Sto) (hl : ds.length = 0) (hn : f_L_kept_v3 act ds S ≠ .stuck) : runF 5 (t_L_kept f act) (ds ++ [.adr f]) S = f_L_kept_v3 act ds S := by
  match ds, hl with
  | [], _ =>
    unfold f_L_kept_v3 at hn ⊢
    cases ea : act [] S with
    | ok d S1 => simp [t_L_kept, tm_L_kept, tb_L_kept, startE, ea]
    | stuck => rw [ea] at hn; exact absurd rfl hn
    | exn c p S1 =>
      rw [ea] at hn
      cases hv : vX_L_kept_v3 c p with
      | none => simp only [hv] at hn; exact absurd rfl hn
      | some d => simp [t_L_kept, tm_L_kept, tb_L_kept, startE, ea, hv]
theorem okl_L_kept (Y : Fx P w K mg base) : DefL P w K mg base (TT K) 0 ("_law_kept" : Str) (defArgs S_L_kept) (defBody S_L_kept) (defScope S_L_kept) N_L_kept ps_L_kept 0 0 ("act" : Str) f_L_kept_v3 where
  ex := Y.fd_L_kept
  sc := sc_L_kept
  pl := rfl
  ai := rfl
  av := by first | exact Or.inl rfl | exact Or.inr (Or.inl rfl)
  ad := by decide
  ac := by decide
  bd := fun _ _ _ _ _ _ us h => match us, h with | [_], _ => rfl
  run := fun g cdv A outer s H E F f act hr hact => ⟨t_L_kept f act, (sss_cons (ss_try 1 (tk := tkX) (mb := tb_L_kept f act) (ms := ts_L_kept) rfl rfl sc_L_kept.nd rfl rfl (d_nm_ShiftError Y) (takes_of rfl rfl rfl rfl) (fun c0 C b h1 h2 => d_xe Y h1 h2) (fun W0 pn0 xe0 tk0 _ => (sss_one (ss_expr (hact pn0 xe0 W0 tk0 _ _ _ _ scf_nil)))) (fun a dd c0 C p oe pn hC ht hz hf => (sss_cons (ss_set 2 sc_L_kept.nd rfl (Or.inl rfl) (se_new (sn_lst (sa_cons (d_isE_InvalidNumber Y hC ht hz hf (se_var 1)) (sa_cons (d_isE_NotARegister Y hC ht hz hf (se_var 1)) (sa_cons (d_isE_InvalidRule Y hC ht hz hf (se_var 1)) sa_nil)))))) (sss_cons (ss_set 2 sc_L_kept.nd rfl (Or.inl rfl) (se_new (sn_add (sb_of (se_var 2)) (sb_of (se_new (sn_lst (sa_cons (d_isE_InvalidStart Y hC ht hz hf (se_var 1)) sa_nil))))))) (sss_cons (ss_set 3 sc_L_kept.nd rfl (Or.inl rfl) (se_new (sn_lst (sa_cons se_str (sa_cons se_str (sa_cons se_str (sa_cons se_str sa_nil))))))) (sss_cons (ss_set 4 sc_L_kept.nd rfl (Or.inl rfl) (se_if (st_w (sw_and (st_cmp (op_eqA hr.units) od_eq (sb_of (se_countB (se_var 2) (sa_cons se_bl sa_nil))) (sb_of se_int) (nomark _)) (sw_and1 (st_val (d_isEb_ValueError Y hC ht hz hf (se_var 1)))))) (se_indexB (se_var 2) (sa_cons se_bl sa_nil)) (se_op op_sub od_sub (sb_of se_int) (sb_of se_int)))) (sss_cons (ss_if (st_cmp op_lt od_cmp (sb_of (se_var 4)) (sb_of se_int) (nomark _)) (sss_one (ss_ret (se_tup (sa_cons se_str (sa_cons se_non sa_nil))))) sss_nil) (sss_one (ss_ret (se_tup (sa_cons (se_ix ix_any od_ix (sb_of (se_var 3)) (sb_of (se_var 4)) (fun _ _ => rfl)) (sa_cons (se_if (st_cmp op_lt od_cmp (sb_of (se_var 4)) (sb_of se_int) (nomark _)) (d_xf_given Y hC ht hz hf (se_var 1)) (d_xf_index Y hC ht hz hf (se_var 1))) sa_nil))))))))))) (hm_L_kept f act)) (sss_one (ss_ret (se_tup (sa_cons se_str (sa_cons se_non sa_nil)))))), fun ds S hl hn => eq_L_kept f act ds S hl hn⟩
/-! _law_register_right -/
abbrev N_L_register_right : List Str := [("bowl" : Str), ("parts" : Str), ("p" : Str), ("rule" : Str), ("start" : Str), ("made" : Str), ("names" : Str), ("other" : Str), ("told" : Str), ("many" : Str), ("place" : Str), ("row" : Str)]
abbrev ps_L_register_right : List Str := [("bowl" : Str), ("parts" : Str)]
theorem sc_L_register_right : FnScope N_L_register_right ps_L_register_right (defScope S_L_register_right) := C8.fnScope_by (by decide +kernel)
theorem ok_L_register_right (Y : Fx P w K mg base) : DefB P w K mg base (TT K) 13 ("_law_register_right" : Str) (defArgs S_L_register_right) (defBody S_L_register_right) (defScope S_L_register_right) ps_L_register_right f_L_register_right := by
  obtain ⟨f, fd, Fd, hm⟩ := Y.fd_L_register_right
  exact ⟨f, fd, Fd, def_ok (mb := t_L_register_right) Fd sc_L_register_right (fun cdv A outer s H E F hcv hr => (sss_cons (ss_asg (se_var 1) (sg_tup rfl (sgs_cons (sg_name 2 sc_L_register_right.nd rfl (Or.inl rfl)) (sgs_cons (sg_name 3 sc_L_register_right.nd rfl (Or.inl rfl)) (sgs_cons (sg_name 4 sc_L_register_right.nd rfl (Or.inl rfl)) sgs_nil))))) (sss_cons (ss_par 5 6 rfl sc_L_register_right.nd rfl rfl (by decide) rfl rfl (sa_cons (se_callF ((ok_L_made Y).cal 1 [] [0] (fun _ _ _ _ _ _ us ws h1 h2 => match us, ws, h1, h2 with | [_], [], _, _ => rfl)) (hr.mono (by decide)) (takes_of rfl rfl rfl rfl) (by rfl) (sc_pos (sa_cons (se_var 1) sa_nil))) (sa_cons (se_make (mak_Register Y 0 [("start" : Str), ("rule" : Str), ("modulus" : Str)] [0, 3, 2, 1] (fun _ _ _ _ _ _ us ws h1 h2 => match us, ws, h1, h2 with | [_], [_, _, _], _, _ => rfl)) (hr.mono (by decide)) (takes_of rfl rfl rfl rfl) (by rfl) (sc_kw (sk_cons (se_var 4) (sk_cons (se_var 3) (sk_cons (se_var 2) sk_nil))))) sa_nil))) (sss_cons (ss_set 7 sc_L_register_right.nd rfl (Or.inl rfl) (se_callF ((ok_L_register Y).cal 3 [] [0, 1, 2] (fun _ _ _ _ _ _ us ws h1 h2 => match us, ws, h1, h2 with | [_, _, _], [], _, _ => rfl)) (hr.mono (by decide)) (takes_of rfl rfl rfl rfl) (by rfl) (sc_pos (sa_cons (se_var 0) (sa_cons (se_var 2) (sa_cons se_int sa_nil)))))) (sss_cons (ss_set 8 sc_L_register_right.nd rfl (Or.inl rfl) (se_tup (sa_cons (se_prop (prc_Register_modulus Y) (hr.mono (by decide)) (se_var 5)) (sa_cons (se_prop (prc_Register_rule Y) (hr.mono (by decide)) (se_var 5)) (sa_cons (se_prop (prc_Register_start Y) (hr.mono (by decide)) (se_var 5)) (sa_cons (se_prop (prc_Register_parts Y) (hr.mono (by decide)) (se_var 5)) (sa_cons (se_eqO (eqc_Register Y) (hr.mono (by decide)) (sb_of (se_var 5)) (sb_of (se_var 6))) (sa_cons (se_neO (eqc_Register Y) (hr.mono (by decide)) (sb_of (se_var 5)) (sb_of (se_var 6))) (sa_cons (se_eqO (eqc_Register Y) (hr.mono (by decide)) (sb_of (se_var 5)) (sb_of (se_var 1))) (sa_cons (se_eqO (eqc_Register Y) (hr.mono (by decide)) (sb_of (se_var 5)) (sb_of (se_callF ((ok_L_made Y).cal 1 [] [0] (fun _ _ _ _ _ _ us ws h1 h2 => match us, ws, h1, h2 with | [_], [], _, _ => rfl)) (hr.mono (by decide)) (takes_of rfl rfl rfl rfl) (by rfl) (sc_pos (sa_cons (se_var 7) sa_nil))))) (sa_cons (se_neO (eqc_Register Y) (hr.mono (by decide)) (sb_of (se_var 5)) (sb_of (se_callF ((ok_L_made Y).cal 1 [] [0] (fun _ _ _ _ _ _ us ws h1 h2 => match us, ws, h1, h2 with | [_], [], _, _ => rfl)) (hr.mono (by decide)) (takes_of rfl rfl rfl rfl) (by rfl) (sc_pos (sa_cons (se_var 7) sa_nil))))) sa_nil))))))))))) (sss_cons (ss_if (st_not (st_val (se_callF (((ok_L_same Y 8)).cal 2 [] [0, 1] (fun _ _ _ _ _ _ us ws h1 h2 => match us, ws, h1, h2 with | [_, _], [], _, _ => rfl)) (hr.mono (by decide)) (takes_of rfl rfl rfl rfl) (by rfl) (sc_pos (sa_cons (se_var 8) (sa_cons (se_tup (sa_cons (se_var 2) (sa_cons (se_var 3) (sa_cons (se_var 4) (sa_cons (se_var 1) (sa_cons se_bl (sa_cons se_bl (sa_cons se_bl (sa_cons (se_cmp (op_eqA hr.units) od_eq (sb_of (se_var 1)) (sb_of (se_var 7)) (nomark _)) (sa_cons (se_cmp (op_neD hr.units) od_ne (sb_of (se_var 1)) (sb_of (se_var 7)) (nomark _)) sa_nil)))))))))) sa_nil)))))) (sss_one (ss_ret se_bl)) sss_nil) (sss_cons (ss_par 9 10 rfl sc_L_register_right.nd rfl rfl (by decide) rfl rfl (sa_cons (se_callF ((ok_L_of Y).cal 2 [] [0, 1] (fun _ _ _ _ _ _ us ws h1 h2 => match us, ws, h1, h2 with | [_, _], [], _, _ => rfl)) (hr.mono (by decide)) (takes_of rfl rfl rfl rfl) (by rfl) (sc_pos (sa_cons (se_var 0) (sa_cons (se_tup (sa_cons se_int (sa_cons se_int (sa_cons (se_callB call_len cd_len (by rfl) Y.b_len boot_len (sab_cons (sb_of (se_var 3)) sab_nil)) (sa_cons (se_callF ((ok_L_draw Y).cal 2 [] [0, 1] (fun _ _ _ _ _ _ us ws h1 h2 => match us, ws, h1, h2 with | [_, _], [], _, _ => rfl)) (hr.mono (by decide)) (takes_of rfl rfl rfl rfl) (by rfl) (sc_pos (sa_cons (se_var 0) (sa_cons se_int sa_nil)))) (sa_cons se_int sa_nil)))))) sa_nil)))) (sa_cons (se_callF ((ok_L_draw Y).cal 2 [] [0, 1] (fun _ _ _ _ _ _ us ws h1 h2 => match us, ws, h1, h2 with | [_, _], [], _, _ => rfl)) (hr.mono (by decide)) (takes_of rfl rfl rfl rfl) (by rfl) (sc_pos (sa_cons (se_var 0) (sa_cons se_int sa_nil)))) sa_nil))) (sss_cons (ss_set 11 sc_L_register_right.nd rfl (Or.inl rfl) (se_callF ((ok_L_first Y).cal 2 [] [0, 1] (fun _ _ _ _ _ _ us ws h1 h2 => match us, ws, h1, h2 with | [_, _], [], _, _ => rfl)) (hr.mono (by decide)) (takes_of rfl rfl rfl rfl) (by rfl) (sc_pos (sa_cons (se_var 1) (sa_cons se_int sa_nil))))) (sss_cons (ss_set 8 sc_L_register_right.nd rfl (Or.inl rfl) (se_tup (sa_cons (se_callF ((ok_row_of Y).cal 2 [] [0, 1] (fun _ _ _ _ _ _ us ws h1 h2 => match us, ws, h1, h2 with | [_, _], [], _, _ => rfl)) (hr.mono (by decide)) (takes_of rfl rfl rfl rfl) (by rfl) (sc_pos (sa_cons (se_var 5) (sa_cons (se_var 9) sa_nil)))) (sa_cons (se_callF ((ok_row_of Y).cal 0 [("many" : Str), ("register" : Str)] [1, 0] (fun _ _ _ _ _ _ us ws h1 h2 => match us, ws, h1, h2 with | [], [_, _], _, _ => rfl)) (hr.mono (by decide)) (takes_of rfl rfl rfl rfl) (by rfl) (sc_kw (sk_cons (se_var 9) (sk_cons (se_var 5) sk_nil)))) (sa_cons (se_callF ((ok_value_at Y).cal 2 [] [0, 1] (fun _ _ _ _ _ _ us ws h1 h2 => match us, ws, h1, h2 with | [_, _], [], _, _ => rfl)) (hr.mono (by decide)) (takes_of rfl rfl rfl rfl) (by rfl) (sc_pos (sa_cons (se_var 5) (sa_cons (se_var 10) sa_nil)))) (sa_cons (se_callF ((ok_value_at Y).cal 0 [("place" : Str), ("register" : Str)] [1, 0] (fun _ _ _ _ _ _ us ws h1 h2 => match us, ws, h1, h2 with | [], [_, _], _, _ => rfl)) (hr.mono (by decide)) (takes_of rfl rfl rfl rfl) (by rfl) (sc_kw (sk_cons (se_var 10) (sk_cons (se_var 5) sk_nil)))) (sa_cons (se_callF ((ok_state_at Y).cal 2 [] [0, 1] (fun _ _ _ _ _ _ us ws h1 h2 => match us, ws, h1, h2 with | [_, _], [], _, _ => rfl)) (hr.mono (by decide)) (takes_of rfl rfl rfl rfl) (by rfl) (sc_pos (sa_cons (se_var 5) (sa_cons (se_var 10) sa_nil)))) (sa_cons (se_callF ((ok_state_at Y).cal 0 [("place" : Str), ("register" : Str)] [1, 0] (fun _ _ _ _ _ _ us ws h1 h2 => match us, ws, h1, h2 with | [], [_, _], _, _ => rfl)) (hr.mono (by decide)) (takes_of rfl rfl rfl rfl) (by rfl) (sc_kw (sk_cons (se_var 10) (sk_cons (se_var 5) sk_nil)))) sa_nil)))))))) (sss_cons (ss_if (st_not (st_val (se_callF (((ok_L_same Y 8)).cal 2 [] [0, 1] (fun _ _ _ _ _ _ us ws h1 h2 => match us, ws, h1, h2 with | [_, _], [], _, _ => rfl)) (hr.mono (by decide)) (takes_of rfl rfl rfl rfl) (by rfl) (sc_pos (sa_cons (se_var 8) (sa_cons (se_tup (sa_cons (se_slice (sb_of (se_var 11)) so_none (so_some (sb_of (se_var 9)))) (sa_cons (se_slice (sb_of (se_var 11)) so_none (so_some (sb_of (se_var 9)))) (sa_cons (se_ix ix_any od_ix (sb_of (se_var 11)) (sb_of (se_var 10)) (fun _ _ => rfl)) (sa_cons (se_ix ix_any od_ix (sb_of (se_var 11)) (sb_of (se_var 10)) (fun _ _ => rfl)) (sa_cons (se_slice (sb_of (se_var 11)) (so_some (sb_of (se_var 10))) (so_some (sb_of (se_op op_addA od_add (sb_of (se_var 10)) (sb_of (se_callB call_len cd_len (by rfl) Y.b_len boot_len (sab_cons (sb_of (se_var 3)) sab_nil))))))) (sa_cons (se_slice (sb_of (se_var 11)) (so_some (sb_of (se_var 10))) (so_some (sb_of (se_op op_addA od_add (sb_of (se_var 10)) (sb_of (se_callB call_len cd_len (by rfl) Y.b_len boot_len (sab_cons (sb_of (se_var 3)) sab_nil))))))) sa_nil))))))) sa_nil)))))) (sss_one (ss_ret se_bl)) sss_nil) (sss_one (ss_ret (se_and (se_cmp op_isA od_is (sb_of (se_callF ((ok_keeps Y).cal 3 [] [0, 1, 2] (fun _ _ _ _ _ _ us ws h1 h2 => match us, ws, h1, h2 with | [_, _, _], [], _, _ => rfl)) (hr.mono (by decide)) (takes_of rfl rfl rfl rfl) (by rfl) (sc_pos (sa_cons (se_var 2) (sa_cons (se_callF ((ok_row_of Y).cal 2 [] [0, 1] (fun _ _ _ _ _ _ us ws h1 h2 => match us, ws, h1, h2 with | [_, _], [], _, _ => rfl)) (hr.mono (by decide)) (takes_of rfl rfl rfl rfl) (by rfl) (sc_pos (sa_cons (se_var 5) (sa_cons se_int sa_nil)))) (sa_cons (se_var 3) sa_nil)))))) (sb_of se_bl) (nomark _)) (se_one (se_callF (((ok_L_same Y 8)).cal 2 [] [0, 1] (fun _ _ _ _ _ _ us ws h1 h2 => match us, ws, h1, h2 with | [_, _], [], _, _ => rfl)) (hr.mono (by decide)) (takes_of rfl rfl rfl rfl) (by rfl) (sc_pos (sa_cons (se_callF ((ok_row_of Y).cal 2 [] [0, 1] (fun _ _ _ _ _ _ us ws h1 h2 => match us, ws, h1, h2 with | [_, _], [], _, _ => rfl)) (hr.mono (by decide)) (takes_of rfl rfl rfl rfl) (by rfl) (sc_pos (sa_cons (se_var 5) (sa_cons se_int sa_nil)))) (sa_cons (se_callF ((ok_gone_on Y).cal 4 [] [0, 1, 2, 3] (fun _ _ _ _ _ _ us ws h1 h2 => match us, ws, h1, h2 with | [_, _, _, _], [], _, _ => rfl)) (hr.mono (by decide)) (takes_of rfl rfl rfl rfl) (by rfl) (sc_pos (sa_cons (se_var 2) (sa_cons (se_var 4) (sa_cons (se_var 3) (sa_cons (se_op op_sub od_sub (sb_of se_int) (sb_of (se_callB call_len cd_len (by rfl) Y.b_len boot_len (sab_cons (sb_of (se_var 3)) sab_nil)))) sa_nil)))))) sa_nil)))))))))))))))))) (fun _ _ _ _ => rfl), hm⟩
end
end K03
set_option Elab.async false
set_option linter.all false
set_option maxRecDepth 100000
set_option maxHeartbeats 4000000
namespace K03
open PySem PySem.Spec PyProof.Rows L2 DL LamX SR

section
variable {P : Program} {w : World} {K : PySem.W.Frag} {mg : Str → Option Value} {base : Heap}
/-! _law_right -/
abbrev N_L_right : List Str := [("bowl" : Str), ("p" : Str), ("lap" : Str), ("parts" : Str), ("made" : Str), ("rule" : Str), ("start" : Str), ("odd" : Str), ("bad" : Str), ("at" : Str), ("ill" : Str), ("to" : Str), ("told" : Str), ("none" : Str), ("far" : Str), ("call" : Str), ("most" : Str), ("fib" : Str), ("seven" : Str)]
abbrev ps_L_right : List Str := [("bowl" : Str)]
theorem sc_L_right : FnScope N_L_right ps_L_right (defScope S_L_right) := C8.fnScope_by (by decide +kernel)
theorem ok_L_right (Y : Fx P w K mg base) : DefB P w K mg base (TT K) 14 ("_law_right" : Str) (defArgs S_L_right) (defBody S_L_right) (defScope S_L_right) ps_L_right f_L_right_v4 := by
  obtain ⟨f, fd, Fd, hm⟩ := Y.fd_L_right
  exact ⟨f, fd, Fd, def_ok (mb := t_L_right_v4) Fd sc_L_right (fun cdv A outer s H E F hcv hr => by
    obtain ⟨c, hcd0, tb⟩ := Y.tab_L_right f cdv hm hcv
    subst hcd0
    have tun := Y.tun_L_right
    exact (sss_cons (ss_for (passes_of (K := fun e s'' => L2.CX P w outer H s E e s'') rfl) rfl (si_val (se_tup (sa_cons se_int (sa_cons se_int (sa_cons se_int (sa_cons se_int sa_nil)))))) (sg_name 1 sc_L_right.nd rfl (Or.inr rfl)) (sss_cons (ss_for (passes_of (K := fun e s'' => L2.CX P w outer H s E e s'') rfl) rfl (si_range1 (by rfl) Y.b_range (sab_cons (sb_of se_int) sab_nil)) (sg_name 2 sc_L_right.nd rfl (Or.inl rfl)) (sss_cons (ss_set 3 sc_L_right.nd rfl (Or.inl rfl) (se_callF ((ok_L_register Y).cal 3 [] [0, 1, 2] (fun _ _ _ _ _ _ us ws h1 h2 => match us, ws, h1, h2 with | [_, _, _], [], _, _ => rfl)) (hr.mono (by decide)) (takes_of rfl rfl rfl rfl) (by rfl) (sc_pos (sa_cons (se_var 0) (sa_cons (se_var 1) (sa_cons se_int sa_nil)))))) (sss_one (ss_if (st_not (st_val (se_callF ((ok_L_register_right Y).cal 2 [] [0, 1] (fun _ _ _ _ _ _ us ws h1 h2 => match us, ws, h1, h2 with | [_, _], [], _, _ => rfl)) (hr.mono (by decide)) (takes_of rfl rfl rfl rfl) (by rfl) (sc_pos (sa_cons (se_var 0) (sa_cons (se_var 3) sa_nil)))))) (sss_one (ss_ret se_bl)) sss_nil)))) (sss_cons (ss_asg (se_tup (sa_cons (se_callF ((ok_L_made Y).cal 1 [] [0] (fun _ _ _ _ _ _ us ws h1 h2 => match us, ws, h1, h2 with | [_], [], _, _ => rfl)) (hr.mono (by decide)) (takes_of rfl rfl rfl rfl) (by rfl) (sc_pos (sa_cons (se_var 3) sa_nil))) (sa_cons (se_ix ix_any od_ix (sb_of (se_var 3)) (sb_of se_int) (fun _ _ => rfl)) (sa_cons (se_ix ix_any od_ix (sb_of (se_var 3)) (sb_of se_int) (fun _ _ => rfl)) sa_nil)))) (sg_tup rfl (sgs_cons (sg_name 4 sc_L_right.nd rfl (Or.inr rfl)) (sgs_cons (sg_name 5 sc_L_right.nd rfl (Or.inr rfl)) (sgs_cons (sg_name 6 sc_L_right.nd rfl (Or.inl rfl)) sgs_nil))))) (sss_cons (ss_asg (se_tup (sa_cons (se_callF ((ok_L_odd_modulus Y).cal 1 [] [0] (fun _ _ _ _ _ _ us ws h1 h2 => match us, ws, h1, h2 with | [_], [], _, _ => rfl)) (hr.mono (by decide)) (takes_of rfl rfl rfl rfl) (by rfl) (sc_pos (sa_cons (se_var 0) sa_nil))) (sa_cons (se_callF ((ok_L_odd_values Y).cal 4 [] [0, 1, 2, 3] (fun _ _ _ _ _ _ us ws h1 h2 => match us, ws, h1, h2 with | [_, _, _, _], [], _, _ => rfl)) (hr.mono (by decide)) (takes_of rfl rfl rfl rfl) (by rfl) (sc_pos (sa_cons (se_var 0) (sa_cons (se_var 1) (sa_cons (se_var 5) (sa_cons se_int sa_nil)))))) (sa_cons (se_callF ((ok_L_odd_values Y).cal 4 [] [0, 1, 2, 3] (fun _ _ _ _ _ _ us ws h1 h2 => match us, ws, h1, h2 with | [_, _, _, _], [], _, _ => rfl)) (hr.mono (by decide)) (takes_of rfl rfl rfl rfl) (by rfl) (sc_pos (sa_cons (se_var 0) (sa_cons (se_var 1) (sa_cons (se_var 6) (sa_cons (se_callB call_len cd_len (by rfl) Y.b_len boot_len (sab_cons (sb_of (se_var 6)) sab_nil)) sa_nil)))))) sa_nil)))) (sg_tup rfl (sgs_cons (sg_name 7 sc_L_right.nd rfl (Or.inr rfl)) (sgs_cons (sg_tup rfl (sgs_cons (sg_name 8 sc_L_right.nd rfl (Or.inr rfl)) (sgs_cons (sg_name 9 sc_L_right.nd rfl (Or.inl rfl)) sgs_nil))) (sgs_cons (sg_tup rfl (sgs_cons (sg_name 10 sc_L_right.nd rfl (Or.inr rfl)) (sgs_cons (sg_name 11 sc_L_right.nd rfl (Or.inl rfl)) sgs_nil))) sgs_nil))))) (sss_cons (ss_set 11 sc_L_right.nd rfl (Or.inl rfl) (se_if (st_w (sw_and (st_val (se_isi (by rfl) Y.b_isinstance (by rfl) Y.b_tuple PyProof.Rows.boot_tuple (sb_of (se_var 10)))) (sw_and1 (st_cmp op_lt od_cmp (sb_of (se_callB call_len cd_len (by rfl) Y.b_len boot_len (sab_cons (sb_of (se_var 10)) sab_nil))) (sb_of (se_callB call_len cd_len (by rfl) Y.b_len boot_len (sab_cons (sb_of (se_var 6)) sab_nil))) (nomark _))))) se_non (se_var 11))) (sss_cons (ss_set 12 sc_L_right.nd rfl (Or.inl rfl) (se_tup (sa_cons (se_lam (ps := []) (okl_L_kept Y) (hr.mono (by decide)) (kb := 11) (hr.mono (by decide)) (takes_of rfl rfl rfl rfl) (by rfl) (by exact lamP_by (sc := defScope S_L_right) (by decide +kernel)) sc_L_right.nd (by decide) (fun j p h => by cases h) rfl tb rfl (tmem_L_right K) tun rfl (fun _ _ _ _ _ us h => match us, h with | [], _ => rfl) (fun A outer s H E f c' F hrl => (se_make (mak_Register Y 3 [] [0, 1, 2, 3] (fun _ _ _ _ _ _ us ws h1 h2 => match us, ws, h1, h2 with | [_, _, _, _], [], _, _ => rfl)) (hrl.mono (by decide)) (takes_of rfl rfl rfl rfl) (by rfl) (sc_pos (sa_cons (se_var 7) (sa_cons (se_var 8) (sa_cons (se_var 10) sa_nil)))))) sat_nil rfl) sa_nil))) (sss_cons (ss_set 12 sc_L_right.nd rfl (Or.inl rfl) (se_op op_addA od_add (sb_of (se_var 12)) (sb_of (se_tup (sa_cons (se_lam (ps := []) (okl_L_kept Y) (hr.mono (by decide)) (kb := 11) (hr.mono (by decide)) (takes_of rfl rfl rfl rfl) (by rfl) (by exact lamP_by (sc := defScope S_L_right) (by decide +kernel)) sc_L_right.nd (by decide) (fun j p h => by cases h) rfl tb rfl (tmem_L_right K) tun rfl (fun _ _ _ _ _ us h => match us, h with | [], _ => rfl) (fun A outer s H E f c' F hrl => (se_make (mak_Register Y 3 [] [0, 1, 2, 3] (fun _ _ _ _ _ _ us ws h1 h2 => match us, ws, h1, h2 with | [_, _, _, _], [], _, _ => rfl)) (hrl.mono (by decide)) (takes_of rfl rfl rfl rfl) (by rfl) (sc_pos (sa_cons (se_var 1) (sa_cons (se_var 8) (sa_cons (se_var 10) sa_nil)))))) sat_nil rfl) sa_nil))))) (sss_cons (ss_set 12 sc_L_right.nd rfl (Or.inl rfl) (se_op op_addA od_add (sb_of (se_var 12)) (sb_of (se_tup (sa_cons (se_lam (ps := []) (okl_L_kept Y) (hr.mono (by decide)) (kb := 11) (hr.mono (by decide)) (takes_of rfl rfl rfl rfl) (by rfl) (by exact lamP_by (sc := defScope S_L_right) (by decide +kernel)) sc_L_right.nd (by decide) (fun j p h => by cases h) rfl tb rfl (tmem_L_right K) tun rfl (fun _ _ _ _ _ us h => match us, h with | [], _ => rfl) (fun A outer s H E f c' F hrl => (se_make (mak_Register Y 3 [] [0, 1, 2, 3] (fun _ _ _ _ _ _ us ws h1 h2 => match us, ws, h1, h2 with | [_, _, _, _], [], _, _ => rfl)) (hrl.mono (by decide)) (takes_of rfl rfl rfl rfl) (by rfl) (sc_pos (sa_cons (se_var 1) (sa_cons (se_var 5) (sa_cons (se_var 10) sa_nil)))))) sat_nil rfl) sa_nil))))) (sss_cons (ss_set 12 sc_L_right.nd rfl (Or.inl rfl) (se_op op_addA od_add (sb_of (se_var 12)) (sb_of (se_tup (sa_cons (se_lam (ps := []) (okl_L_kept Y) (hr.mono (by decide)) (kb := 11) (hr.mono (by decide)) (takes_of rfl rfl rfl rfl) (by rfl) (by exact lamP_by (sc := defScope S_L_right) (by decide +kernel)) sc_L_right.nd (by decide) (fun j p h => by cases h) rfl tb rfl (tmem_L_right K) tun rfl (fun _ _ _ _ _ us h => match us, h with | [], _ => rfl) (fun A outer s H E f c' F hrl => (se_make (mak_Register Y 0 [("start" : Str), ("rule" : Str), ("modulus" : Str)] [0, 3, 2, 1] (fun _ _ _ _ _ _ us ws h1 h2 => match us, ws, h1, h2 with | [_], [_, _, _], _, _ => rfl)) (hrl.mono (by decide)) (takes_of rfl rfl rfl rfl) (by rfl) (sc_kw (sk_cons (se_var 10) (sk_cons (se_var 5) (sk_cons (se_var 1) sk_nil)))))) sat_nil rfl) sa_nil))))) (sss_cons (ss_set 12 sc_L_right.nd rfl (Or.inl rfl) (se_op op_addA od_add (sb_of (se_var 12)) (sb_of (se_tup (sa_cons (se_lam (ps := []) (okl_L_kept Y) (hr.mono (by decide)) (kb := 11) (hr.mono (by decide)) (takes_of rfl rfl rfl rfl) (by rfl) (by exact lamP_by (sc := defScope S_L_right) (by decide +kernel)) sc_L_right.nd (by decide) (fun j p h => by cases h) rfl tb rfl (tmem_L_right K) tun rfl (fun _ _ _ _ _ us h => match us, h with | [], _ => rfl) (fun A outer s H E f c' F hrl => (se_make (mak_Register Y 3 [] [0, 1, 2, 3] (fun _ _ _ _ _ _ us ws h1 h2 => match us, ws, h1, h2 with | [_, _, _, _], [], _, _ => rfl)) (hrl.mono (by decide)) (takes_of rfl rfl rfl rfl) (by rfl) (sc_pos (sa_cons (se_var 1) (sa_cons (se_op op_mulA od_mul (sb_of (se_tup (sa_cons se_int sa_nil))) (sb_of se_int)) (sa_cons (se_op op_mulA od_mul (sb_of (se_tup (sa_cons se_int sa_nil))) (sb_of se_int)) sa_nil)))))) sat_nil rfl) sa_nil))))) (sss_cons (ss_set 12 sc_L_right.nd rfl (Or.inl rfl) (se_op op_addA od_add (sb_of (se_var 12)) (sb_of (se_tup (sa_cons (se_lam (ps := []) (okl_L_kept Y) (hr.mono (by decide)) (kb := 11) (hr.mono (by decide)) (takes_of rfl rfl rfl rfl) (by rfl) (by exact lamP_by (sc := defScope S_L_right) (by decide +kernel)) sc_L_right.nd (by decide) (fun j p h => by cases h) rfl tb rfl (tmem_L_right K) tun rfl (fun _ _ _ _ _ us h => match us, h with | [], _ => rfl) (fun A outer s H E f c' F hrl => (se_make (mak_Register Y 3 [] [0, 1, 2, 3] (fun _ _ _ _ _ _ us ws h1 h2 => match us, ws, h1, h2 with | [_, _, _, _], [], _, _ => rfl)) (hrl.mono (by decide)) (takes_of rfl rfl rfl rfl) (by rfl) (sc_pos (sa_cons (se_var 1) (sa_cons (se_tup (sa_cons se_int (sa_cons se_int (sa_cons se_int sa_nil)))) (sa_cons (se_tup (sa_cons se_int (sa_cons se_int sa_nil))) sa_nil)))))) sat_nil rfl) sa_nil))))) (sss_cons (ss_if (st_not (st_val (se_callF (((ok_L_same Y 8)).cal 2 [] [0, 1] (fun _ _ _ _ _ _ us ws h1 h2 => match us, ws, h1, h2 with | [_, _], [], _, _ => rfl)) (hr.mono (by decide)) (takes_of rfl rfl rfl rfl) (by rfl) (sc_pos (sa_cons (se_var 12) (sa_cons (se_tup (sa_cons (se_tup (sa_cons se_str (sa_cons (se_var 7) sa_nil))) (sa_cons (se_tup (sa_cons se_str (sa_cons (se_var 9) sa_nil))) (sa_cons (se_tup (sa_cons se_str (sa_cons (se_var 11) sa_nil))) (sa_cons (se_tup (sa_cons se_str (sa_cons (se_var 11) sa_nil))) (sa_cons (se_tup (sa_cons se_str (sa_cons se_int sa_nil))) (sa_cons (se_tup (sa_cons se_str (sa_cons se_non sa_nil))) sa_nil))))))) sa_nil)))))) (sss_one (ss_ret se_bl)) sss_nil) (sss_cons (ss_asg (se_tup (sa_cons (se_callF ((ok_L_of Y).cal 2 [] [0, 1] (fun _ _ _ _ _ _ us ws h1 h2 => match us, ws, h1, h2 with | [_, _], [], _, _ => rfl)) (hr.mono (by decide)) (takes_of rfl rfl rfl rfl) (by rfl) (sc_pos (sa_cons (se_var 0) (sa_cons (se_tup (sa_cons se_non (sa_cons se_int (sa_cons (se_var 3) (sa_cons (se_var 5) (sa_cons (se_new (sn_lst sa_nil)) (sa_cons se_emp (sa_cons se_bl (sa_cons se_str sa_nil))))))))) sa_nil)))) (sa_cons (se_callF ((ok_L_of Y).cal 2 [] [0, 1] (fun _ _ _ _ _ _ us ws h1 h2 => match us, ws, h1, h2 with | [_, _], [], _, _ => rfl)) (hr.mono (by decide)) (takes_of rfl rfl rfl rfl) (by rfl) (sc_pos (sa_cons (se_var 0) (sa_cons (se_tup (sa_cons se_non (sa_cons (se_op op_sub od_sub (sb_of se_int) (sb_of se_int)) (sa_cons se_bl (sa_cons se_str (sa_cons (se_op op_addA od_add (sb_of (se_op op_pow od_pow (sb_of se_int) (sb_of se_int))) (sb_of se_int)) (sa_cons (se_tup (sa_cons se_int sa_nil)) sa_nil))))))) sa_nil)))) sa_nil))) (sg_tup rfl (sgs_cons (sg_name 13 sc_L_right.nd rfl (Or.inr rfl)) (sgs_cons (sg_name 14 sc_L_right.nd rfl (Or.inl rfl)) sgs_nil)))) (sss_one (ss_for (passes_of (K := fun e s'' => L2.CX P w outer H s E e s'') rfl) rfl (si_val (se_tup (sa_cons (se_tup (sa_cons (d_g_row_of Y) (sa_cons se_int sa_nil))) (sa_cons (se_tup (sa_cons (d_g_value_at Y) (sa_cons (se_var 14) sa_nil))) (sa_cons (se_tup (sa_cons (d_g_state_at Y) (sa_cons (se_var 14) sa_nil))) sa_nil))))) (sg_tup rfl (sgs_cons (sg_name 15 sc_L_right.nd rfl (Or.inr rfl)) (sgs_cons (sg_name 16 sc_L_right.nd rfl (Or.inr rfl)) sgs_nil))) (sss_cons (ss_set 12 sc_L_right.nd rfl (Or.inl rfl) (se_tup (sa_cons (se_lam (ps := []) (okl_L_kept Y) (hr.mono (by decide)) (kb := 7) (hr.mono (by decide)) (takes_of rfl rfl rfl rfl) (by rfl) (by exact lamP_by (sc := defScope S_L_right) (by decide +kernel)) sc_L_right.nd (by decide) (fun j p h => by cases h) rfl tb rfl (tmem_L_right K) tun rfl (fun _ _ _ _ _ us h => match us, h with | [], _ => rfl) (fun A outer s H E f c' F hrl => (se_callV 15 (fun y n m h => tab_cases3 h (((ok_row_of Y).mono (by decide : 4 ≤ 7)).cal 2 [] [0, 1] (fun _ _ _ _ _ _ us ws h1 h2 => match us, ws, h1, h2 with | [_, _], [], _, _ => rfl)) (((ok_value_at Y).mono (by decide : 7 ≤ 7)).cal 2 [] [0, 1] (fun _ _ _ _ _ _ us ws h1 h2 => match us, ws, h1, h2 with | [_, _], [], _, _ => rfl)) (((ok_state_at Y).mono (by decide : 7 ≤ 7)).cal 2 [] [0, 1] (fun _ _ _ _ _ _ us ws h1 h2 => match us, ws, h1, h2 with | [_, _], [], _, _ => rfl))) (hrl.mono (by decide)) (takes_of rfl rfl rfl rfl) (sc_pos (sa_cons (se_var 13) (sa_cons (se_var 16) sa_nil))))) sat_nil rfl) sa_nil))) (sss_cons (ss_set 12 sc_L_right.nd rfl (Or.inl rfl) (se_op op_addA od_add (sb_of (se_var 12)) (sb_of (se_tup (sa_cons (se_lam (ps := []) (okl_L_kept Y) (hr.mono (by decide)) (kb := 7) (hr.mono (by decide)) (takes_of rfl rfl rfl rfl) (by rfl) (by exact lamP_by (sc := defScope S_L_right) (by decide +kernel)) sc_L_right.nd (by decide) (fun j p h => by cases h) rfl tb rfl (tmem_L_right K) tun rfl (fun _ _ _ _ _ us h => match us, h with | [], _ => rfl) (fun A outer s H E f c' F hrl => (se_callV 15 (fun y n m h => tab_cases3 h (((ok_row_of Y).mono (by decide : 4 ≤ 7)).cal 2 [] [0, 1] (fun _ _ _ _ _ _ us ws h1 h2 => match us, ws, h1, h2 with | [_, _], [], _, _ => rfl)) (((ok_value_at Y).mono (by decide : 7 ≤ 7)).cal 2 [] [0, 1] (fun _ _ _ _ _ _ us ws h1 h2 => match us, ws, h1, h2 with | [_, _], [], _, _ => rfl)) (((ok_state_at Y).mono (by decide : 7 ≤ 7)).cal 2 [] [0, 1] (fun _ _ _ _ _ _ us ws h1 h2 => match us, ws, h1, h2 with | [_, _], [], _, _ => rfl))) (hrl.mono (by decide)) (takes_of rfl rfl rfl rfl) (sc_pos (sa_cons (se_var 4) (sa_cons (se_var 16) sa_nil))))) sat_nil rfl) sa_nil))))) (sss_cons (ss_set 12 sc_L_right.nd rfl (Or.inl rfl) (se_op op_addA od_add (sb_of (se_var 12)) (sb_of (se_tup (sa_cons (se_lam (ps := []) (okl_L_kept Y) (hr.mono (by decide)) (kb := 7) (hr.mono (by decide)) (takes_of rfl rfl rfl rfl) (by rfl) (by exact lamP_by (sc := defScope S_L_right) (by decide +kernel)) sc_L_right.nd (by decide) (fun j p h => by cases h) rfl tb rfl (tmem_L_right K) tun rfl (fun _ _ _ _ _ us h => match us, h with | [], _ => rfl) (fun A outer s H E f c' F hrl => (se_callV 15 (fun y n m h => tab_cases3 h (((ok_row_of Y).mono (by decide : 4 ≤ 7)).cal 2 [] [0, 1] (fun _ _ _ _ _ _ us ws h1 h2 => match us, ws, h1, h2 with | [_, _], [], _, _ => rfl)) (((ok_value_at Y).mono (by decide : 7 ≤ 7)).cal 2 [] [0, 1] (fun _ _ _ _ _ _ us ws h1 h2 => match us, ws, h1, h2 with | [_, _], [], _, _ => rfl)) (((ok_state_at Y).mono (by decide : 7 ≤ 7)).cal 2 [] [0, 1] (fun _ _ _ _ _ _ us ws h1 h2 => match us, ws, h1, h2 with | [_, _], [], _, _ => rfl))) (hrl.mono (by decide)) (takes_of rfl rfl rfl rfl) (sc_pos (sa_cons (se_var 4) (sa_cons se_non sa_nil))))) sat_nil rfl) sa_nil))))) (sss_one (ss_if (st_not (st_val (se_callF (((ok_L_same Y 8)).cal 2 [] [0, 1] (fun _ _ _ _ _ _ us ws h1 h2 => match us, ws, h1, h2 with | [_, _], [], _, _ => rfl)) (hr.mono (by decide)) (takes_of rfl rfl rfl rfl) (by rfl) (sc_pos (sa_cons (se_var 12) (sa_cons (se_tup (sa_cons (se_tup (sa_cons se_str (sa_cons (se_var 13) sa_nil))) (sa_cons (se_tup (sa_cons se_str (sa_cons (se_var 16) sa_nil))) (sa_cons (se_tup (sa_cons se_str (sa_cons se_non sa_nil))) sa_nil)))) sa_nil)))))) (sss_one (ss_ret se_bl)) sss_nil)))))))))))))))))))) (sss_cons (ss_par 17 18 rfl sc_L_right.nd rfl rfl (by decide) rfl rfl (sa_cons (se_make (mak_Register Y 3 [] [0, 1, 2, 3] (fun _ _ _ _ _ _ us ws h1 h2 => match us, ws, h1, h2 with | [_, _, _, _], [], _, _ => rfl)) (hr.mono (by decide)) (takes_of rfl rfl rfl rfl) (by rfl) (sc_pos (sa_cons se_int (sa_cons (se_tup (sa_cons se_int (sa_cons se_int sa_nil))) (sa_cons (se_tup (sa_cons se_int (sa_cons se_int sa_nil))) sa_nil))))) (sa_cons (se_make (mak_Register Y 3 [] [0, 1, 2, 3] (fun _ _ _ _ _ _ us ws h1 h2 => match us, ws, h1, h2 with | [_, _, _, _], [], _, _ => rfl)) (hr.mono (by decide)) (takes_of rfl rfl rfl rfl) (by rfl) (sc_pos (sa_cons se_int (sa_cons (se_tup (sa_cons se_int (sa_cons se_int (sa_cons se_int sa_nil)))) (sa_cons (se_tup (sa_cons se_int (sa_cons se_int (sa_cons se_int sa_nil)))) sa_nil))))) sa_nil))) (sss_one (ss_ret (se_callF (((ok_L_same Y 8)).cal 2 [] [0, 1] (fun _ _ _ _ _ _ us ws h1 h2 => match us, ws, h1, h2 with | [_, _], [], _, _ => rfl)) (hr.mono (by decide)) (takes_of rfl rfl rfl rfl) (by rfl) (sc_pos (sa_cons (se_tup (sa_cons (se_callF ((ok_row_of Y).cal 2 [] [0, 1] (fun _ _ _ _ _ _ us ws h1 h2 => match us, ws, h1, h2 with | [_, _], [], _, _ => rfl)) (hr.mono (by decide)) (takes_of rfl rfl rfl rfl) (by rfl) (sc_pos (sa_cons (se_var 17) (sa_cons se_int sa_nil)))) (sa_cons (se_callF ((ok_row_of Y).cal 2 [] [0, 1] (fun _ _ _ _ _ _ us ws h1 h2 => match us, ws, h1, h2 with | [_, _], [], _, _ => rfl)) (hr.mono (by decide)) (takes_of rfl rfl rfl rfl) (by rfl) (sc_pos (sa_cons (se_var 18) (sa_cons se_int sa_nil)))) (sa_cons (se_callF ((ok_state_at Y).cal 2 [] [0, 1] (fun _ _ _ _ _ _ us ws h1 h2 => match us, ws, h1, h2 with | [_, _], [], _, _ => rfl)) (hr.mono (by decide)) (takes_of rfl rfl rfl rfl) (by rfl) (sc_pos (sa_cons (se_var 17) (sa_cons se_int sa_nil)))) (sa_cons (se_callF ((ok_value_at Y).cal 2 [] [0, 1] (fun _ _ _ _ _ _ us ws h1 h2 => match us, ws, h1, h2 with | [_, _], [], _, _ => rfl)) (hr.mono (by decide)) (takes_of rfl rfl rfl rfl) (by rfl) (sc_pos (sa_cons (se_make (mak_Register Y 3 [] [0, 1, 2, 3] (fun _ _ _ _ _ _ us ws h1 h2 => match us, ws, h1, h2 with | [_, _, _, _], [], _, _ => rfl)) (hr.mono (by decide)) (takes_of rfl rfl rfl rfl) (by rfl) (sc_pos (sa_cons se_int (sa_cons (se_tup sa_nil) (sa_cons (se_tup sa_nil) sa_nil))))) (sa_cons se_int sa_nil)))) sa_nil))))) (sa_cons (se_tup (sa_cons (se_tup (sa_cons se_int (sa_cons se_int (sa_cons se_int (sa_cons se_int (sa_cons se_int (sa_cons se_int (sa_cons se_int (sa_cons se_int (sa_cons se_int (sa_cons se_int sa_nil))))))))))) (sa_cons (se_tup (sa_cons se_int (sa_cons se_int (sa_cons se_int (sa_cons se_int (sa_cons se_int (sa_cons se_int (sa_cons se_int (sa_cons se_int (sa_cons se_int (sa_cons se_int sa_nil))))))))))) (sa_cons (se_tup (sa_cons se_int (sa_cons se_int sa_nil))) (sa_cons se_int sa_nil))))) sa_nil))))))))) (fun _ _ _ _ => rfl), hm⟩
/-! law -/
abbrev N_law : List Str := [("script" : Str), ("lap" : Str)]
abbrev ps_law : List Str := [("script" : Str)]
theorem sc_law : FnScope N_law ps_law (defScope S_law) := C8.fnScope_by (by decide +kernel)
theorem ok_law (Y : Fx P w K mg base) : DefB P w K mg base (TT K) 15 ("law" : Str) (defArgs S_law) (defBody S_law) (defScope S_law) ps_law f_law_v4 := by
  obtain ⟨f, fd, Fd, hm⟩ := Y.fd_law
  exact ⟨f, fd, Fd, def_ok (mb := t_law_v4) Fd sc_law (fun cdv A outer s H E F hcv hr => (sss_one (ss_ret (se_callB (cr_all rfl) cd_allany (by rfl) Y.b_all PyProof.Rows.boot_all (sab_cons (sb_of (se_new (sn_lc [(("lap" : Str), 1)] rfl sc_law.nd (si_range1 (by rfl) Y.b_range (sab_cons (sb_of (se_callB (call_max2 rfl) cd_2i (by rfl) Y.b_max PyProof.Rows.boot_max (sab_cons (sb_of se_int) (sab_cons (sb_of (se_callB (call_min2 rfl) cd_2i (by rfl) Y.b_min PyProof.Rows.boot_min (sab_cons (sb_of (se_callB call_len cd_len (by rfl) Y.b_len boot_len (sab_cons (sb_of (se_var 0)) sab_nil))) (sab_cons (sb_of se_int) sab_nil)))) sab_nil)))) sab_nil)) (by exact blkOk_by (N := N_law) (sc := defScope S_law) (by decide +kernel)) (lt_name (by decide)) (fun s H C cl fp => pg_name (i := 1) sc_law.nd rfl (Or.inl rfl)) (fun s H C cl fp => sts_nil) (fun s H C cl fp => (se_callF ((ok_L_right Y).cal 1 [] [0] (fun _ _ _ _ _ _ us ws h1 h2 => match us, ws, h1, h2 with | [_], [], _, _ => rfl)) (hr.mono (by decide)) L2.takes0 (by rfl) (sc_pos (sa_cons (se_callF ((ok_L_bowl Y).cal 2 [] [0, 1] (fun _ _ _ _ _ _ us ws h1 h2 => match us, ws, h1, h2 with | [_, _], [], _, _ => rfl)) (hr.mono (by decide)) L2.takes0 (by rfl) (sc_pos (sa_cons (se_var 0) (sa_cons (se_var 1) sa_nil)))) sa_nil))))))) sab_nil))))) (fun _ _ _ _ => rfl), hm⟩

end
end K03
set_option Elab.async false
set_option linter.all false
set_option maxRecDepth 100000
set_option maxHeartbeats 2000000
/-! DW1: what is looked at behind the top -/
namespace DW
open PySem PySem.Spec PyProof.Rows L2 LamX He
def asZ (g : Addr → Option Obj) : Nat → List Addr
  | 0 => [mainGlobals, PySem.cStatics]
  | n + 1 => growD g (asZ g n)
/-! ### an exception's own maker -/
abbrev FnS : Type := Option (Str × Str × Arguments × FuncBody × Scope × Addr × List Str × Addr)
def fnA (K : PySem.W.Frag) (a : Addr) : FnS := match K.lookup a with
  | some ⟨_, _, .func fd, _⟩ => some (fd.name, fd.qualname, fd.params, fd.body, fd.scope, fd.globals, fd.closure.map (·.1), fd.builtins)
  | _ => none
def fnS (K : PySem.W.Frag) (p : Str × Option Str) : FnS := fnA K (fAd K p)
/-- a property's object, its getter -/
def pAd (K : PySem.W.Frag) (C f : Str) : Addr := match PySem.W.findIn K (.ref (ga K C)) f with
  | some (some (.ref p)) => p
  | _ => 0
def gAd (K : PySem.W.Frag) (C f : Str) : Addr := match PySem.W.recIn K (pAd K C f) "property" with
  | some (.ref g :: _) => g
  | _ => 0
structure MkD where
  x : Str
  fl : Str
  qual : Str
  params : Arguments
  body : List Stmt
  scope : Scope
  pr : Bool := false
def MkD.at_ (d : MkD) : Str × Option Str := (d.x, some "__init__")
def MkD.val (d : MkD) : FnS := if d.pr = true then some (d.fl, d.qual, d.params, .stmts d.body, d.scope, mainGlobals, [], builtinsNs) else some ("__init__", d.qual, d.params, .stmts d.body, d.scope, mainGlobals, ["__class__"], builtinsNs)
def fnM (K : PySem.W.Frag) (d : MkD) : FnS := if d.pr = true then fnA K (gAd K d.x d.fl) else fnS K d.at_
/-- the class's object, as excClassObj has it -/
def clsB (K : PySem.W.Frag) (C : Addr) : Bool := match K.lookup C with
  | some ⟨.type t, _, .cls cd, sl⟩ => decide (t = "type") && (match cd.mro, sl.toList with
    | .ref C' :: bm, [_, _, _, _, some (.builtin n), _] => decide (C' = C) && (decide (n = "ValueError.__new__") && (cd.hasDict && (!cd.hasDel && PySem.HandSPX.refsVE bm)))
    | _, _ => false)
  | _ => false
theorem clsB_ok {K : PySem.W.Frag} {C : Addr} (h : clsB K C = true) : ∃ nm q N bs bm sn sub ab col dd k0 k1 k2 k3 k5, K.lookup C = some (excClassObj nm q C N bs bm true sn sub ab col dd k0 k1 k2 k3 k5 "ValueError.__new__") ∧ PySem.HandSPX.refsVE bm = true := by
  unfold clsB at h
  split at h
  · rename_i t dd cd sl ho
    obtain ⟨h1, h⟩ := ba h
    split at h
    · rename_i C' bm k0 k1 k2 k3 n k5 hm hs
      obtain ⟨h2, h⟩ := ba h
      obtain ⟨h3, h⟩ := ba h
      obtain ⟨h4, h⟩ := ba h
      obtain ⟨h5, h6⟩ := ba h
      have e1 : t = "type" := of_decide_eq_true h1
      have e2 : C' = C := of_decide_eq_true h2
      have e3 : n = "ValueError.__new__" := of_decide_eq_true h3
      subst e1 e2 e3
      obtain ⟨nm, bs, mro, ns, qn, hd, sn, sub, ab, col, del⟩ := cd
      dsimp only at hm h4 h5
      have hd' : del = false := by
        cases del
        · rfl
        · cases h5
      subst hm h4 hd'
      have hsl : sl = #[k0, k1, k2, k3, some (.builtin "ValueError.__new__"), k5] := by
        obtain ⟨l⟩ := sl
        simp only at hs
        rw [hs]
      subst hsl
      exact ⟨nm, qn, ns, bs, bm, sn, sub, ab, col, dd, k0, k1, k2, k3, k5, ho, h6⟩
    · cases h
  · cases h
/-- the code's file, the cell of the class -/
def ccOf (K : PySem.W.Frag) (p : Str × Option Str) : Addr := match K.lookup (fAd K p) with
  | some ⟨_, _, .func fd, _⟩ => (match fd.closure with
    | [(_, c)] => c
    | _ => 0)
  | _ => 0
def fileB (file : Str) (K : PySem.W.Frag) (c : Addr) : Bool := match K.lookup c with
  | some ⟨_, _, .fields vs, _⟩ => (match vs[2]? with
    | some (Value.str f _) => file == f
    | _ => false)
  | _ => false
def cellB (K : PySem.W.Frag) (cc C : Addr) : Bool := match K.lookup cc with
  | some ⟨_, _, .cell (some (.ref C')), _⟩ => decide (C' = C)
  | _ => false
def dflN (K : PySem.W.Frag) (p : Str × Option Str) (qual : Str) : Bool := match K.lookup (fAd K p) with
  | some ⟨_, _, .func fd, _⟩ => (match fd.defaults with
    | .none => PySem.W.codeIn K fd.code qual
    | _ => false)
  | _ => false
def mkB (file : Str) (K : PySem.W.Frag) (d : MkD) : Bool :=
  clsB K (ga K d.x) && (eqO (PySem.W.findIn K (.ref (ga K d.x)) "__setattr__") (some (some (.builtin "object.__setattr__"))) && (eqO (PySem.W.findIn K (.ref (ga K d.x)) d.fl) (some none) &&
  (eqO (PySem.W.findIn K (.ref (ga K d.x)) "__init__") (some (some (.ref (fAd K d.at_)))) && (decide (PySem.W.typeIn K (.ref (fAd K d.at_)) = some (.type "function")) && (PySem.W.keepIn K (.ref (ga K d.x)) &&
  (decide (PySem.W.subIn K (.ref (ga K d.x)) (.type "BaseException") = some true) && (decide (PySem.W.typeIn K (.ref (ga K d.x)) = some (.type "type")) && (fileB file K (codeOf K d.at_) && (cellB K (ccOf K d.at_) (ga K d.x) &&
  (decide (PySem.W.mroIn K (ga K d.x) (.ref (ga K d.x)) = some true) && (eqO (PySem.W.nsIn K mainGlobals "super") (some none) && (eqO (PySem.W.nsIn K PySem.cStatics "thirdparty.any") (some none) &&
  (eqO (PySem.W.ks_superIn K (ga K d.x) (ga K d.x) "__init__") (some (some (.builtin "ValueError.__init__"))) && (decide (PySem.W.subIn K (.ref (ga K d.x)) (.type "ValueError") = some true) && dflN K d.at_ d.qual))))))))))))))
/-- what the text says of such a maker -/
structure Good (P : Program) (d : MkD) : Prop where
  ex : ∃ (a1 a2 : Arg) (p0 p1 p2 p3 p4 p5 q1 q2 q3 q4 : Pos), d.params = { posonlyargs := [], args := [a1, a2], vararg := none, kwonlyargs := [], kw_defaults := [], kwarg := none, defaults := [] } ∧ d.body = PySem.DXE.supB d.fl p0 p1 p2 p3 p4 p5 q1 q2 q3 q4 ∧ a1.arg = "self" ∧ a2.arg = d.fl ∧
    (∀ (cda cc L f : Addr), ∃ pl : Sem Bool, eval (.Call (.Attribute (.Call (.Name "super" p0) [] [] p1) "__init__" p2) [.Name d.fl p3] [] p4) (PySem.W.ksEnv d.qual d.scope L f (.ref cda) cc) = (do
      let ov ← attributeBase (.Call (.Name "super" p0) [] [] p1) "__init__" (PySem.W.ksEnv d.qual d.scope L f (.ref cda) cc) (eval (.Call (.Name "super" p0) [] [] p1) (PySem.W.ksEnv d.qual d.scope L f (.ref cda) cc))
      standAt p2.atName
      let (f', first) ← holding [ov] (getMethod ov "__init__" pl)
      callWith p4 f' first (backTo p4 (starEach [.Name d.fl p3] (PySem.W.ksEnv d.qual d.scope L f (.ref cda) cc))) [])) ∧
    ∀ (kV doc pm : Value) (an : Option Addr) (cda cc : Addr) (ct x v : Value), bindArgs (PySem.W.ksFn "__init__" d.qual d.params d.body d.scope .none kV doc pm an (.ref cda) ct cc) ⟨[x, v], []⟩ = pure [(("self" : Str), x), (d.fl, v)]
  kind : d.scope.kind = .function
  co : d.scope.isCoroutine = false
  gen : d.scope.isGenerator = false
  s1 : d.scope.names.lookup ("super" : Str) = some .globalImplicit
  s2 : d.scope.names.lookup ("__class__" : Str) = some .free
  s3 : d.scope.names.lookup ("self" : Str) = some .local
  s4 : d.scope.names.lookup d.fl = some .local
  s5 : ∀ x ∈ d.scope.names, x.2 ≠ .cell
  top : (P.main.scope.names.lookup ("super" : Str)).isSome = false
  fs : (d.fl == ("self" : Str)) = false
  fc : (d.fl == ("__classdict__" : Str)) = false
  fd : (d.fl == ("__debug__" : Str)) = false
theorem mk_ok {P : Program} {K : PySem.W.Frag} {d : MkD} (g : Good P d) (h : mkB P.main.file K d = true) (e0 : fnM K d = d.val) (hpr : d.pr = false := by rfl) : PySem.DXE.SupTxt P K (ga K d.x) (fAd K d.at_) (ccOf K d.at_) (codeOf K d.at_) d.fl := by
  have e : fnS K d.at_ = (some (("__init__" : Str), d.qual, d.params, FuncBody.stmts d.body, d.scope, mainGlobals, [("__class__" : Str)], builtinsNs) : FnS) := by
    unfold fnM MkD.val at e0
    rw [hpr] at e0
    exact e0
  obtain ⟨h1, h⟩ := ba h
  obtain ⟨h2, h⟩ := ba h
  obtain ⟨h3, h⟩ := ba h
  obtain ⟨h4, h⟩ := ba h
  obtain ⟨h5, h⟩ := ba h
  obtain ⟨h6, h⟩ := ba h
  obtain ⟨h7, h⟩ := ba h
  obtain ⟨h8, h⟩ := ba h
  obtain ⟨h9, h⟩ := ba h
  obtain ⟨h10, h⟩ := ba h
  obtain ⟨h11, h⟩ := ba h
  obtain ⟨h12, h⟩ := ba h
  obtain ⟨h13, h⟩ := ba h
  obtain ⟨h14, h⟩ := ba h
  obtain ⟨h15, h16⟩ := ba h
  obtain ⟨a1, a2, p0, p1, p2, p3, p4, p5, q1, q2, q3, q4, g1, g2, g3, g4, g5, g6⟩ := g.ex
  refine ⟨clsB_ok h1, eqO_ok h2, eqO_ok h3, eqO_ok h4, of_decide_eq_true h5, h6, of_decide_eq_true h7, of_decide_eq_true h8, ?_, ?_, ?_, of_decide_eq_true h11, eqO_ok h12, eqO_ok h13, eqO_ok h14, of_decide_eq_true h15, g.top, g.fs, g.fc, g.fd⟩
  · unfold fnS fnA at e
    unfold dflN at h16
    unfold ccOf codeOf
    cases q : K.lookup (fAd K d.at_) with
    | none => rw [q] at e; cases e
    | some o =>
      obtain ⟨oc, od, dt, osl⟩ := o
      rw [q] at e h16
      cases dt with
      | func fd =>
        obtain ⟨n1, n2, n3, n4, n5, n6, n7, n8, n9, n10, n11, n12, n13, n14, n15⟩ := fd
        have e2 : (some (n1, n2, n3, n4, n5, n6, n7.map (·.1), n15) : FnS) = some (("__init__" : Str), d.qual, d.params, FuncBody.stmts d.body, d.scope, mainGlobals, [("__class__" : Str)], builtinsNs) := e
        simp only [Option.some.injEq, Prod.mk.injEq] at e2
        obtain ⟨k1, k2, k3, k4, k5, k6, k7, k8⟩ := e2
        subst k1 k2 k3 k4 k5 k6 k8
        cases n8 with
        | none =>
          have h18 : PySem.W.codeIn K n13 d.qual = true := h16
          obtain ⟨c, ec⟩ := codeIn_ref h18
          subst ec
          match n7, k7 with
          | [(y, cc)], k7 =>
            have ey : y = "__class__" := by simpa using k7
            subst ey
            refine ⟨oc, od, d.qual, a1, a2, d.scope, .none, n9, n10, n11, n12, n14, osl, p0, p1, p2, p3, p4, p5, q1, q2, q3, q4, fun L f => g5 _ _ L f, ?_, h18, g3, g4, g.kind, g.co, g.gen, g.s1, g.s2, g.s3, g.s4, g.s5, fun x v => ?_⟩
            · rw [← g1, ← g2]
            · have z := g6 n9 n10 n11 n12 c cc n14 x v
              rw [g1, g2] at z
              exact z
        | _ => cases h16
      | _ => cases h16
  · unfold fileB at h9
    split at h9
    · rename_i oc od vs sl ho
      split at h9
      · rename_i f t hv
        exact ⟨oc, od, vs, sl, f, t, ho, hv, h9⟩
      · cases h9
    · cases h9
  · unfold cellB at h10
    split at h10
    · rename_i oc od C' sl ho
      have e1 : C' = ga K d.x := of_decide_eq_true h10
      subst e1
      exact ⟨oc, od, sl, ho⟩
    · cases h10
/-! ### a property -/
def prB (K : PySem.W.Frag) (d : MkD) : Bool :=
  eqO (PySem.W.findIn K (.ref (ga K d.x)) d.fl) (some (some (.ref (pAd K d.x d.fl)))) && (eqO (PySem.W.specialIn K (.ref (pAd K d.x d.fl)) "__get__") (some (some (.builtin "property.__get__"))) && (decide (PySem.W.takesIn K (.ref (pAd K d.x d.fl)) = some true) &&
  ((match PySem.W.recIn K (pAd K d.x d.fl) "property" with
    | some (.ref g :: _) => decide (g = gAd K d.x d.fl)
    | _ => false) && (PySem.W.keepIn K (.ref (gAd K d.x d.fl)) && (match K.lookup (gAd K d.x d.fl) with
    | some ⟨_, _, .func fd, _⟩ => PySem.W.codeIn K fd.code d.qual && (dflB K fd.defaults [] && kwdB K fd.kwdefaults [])
    | _ => false)))))
theorem pr_ok {K : PySem.W.Frag} {d : MkD} (hpr : d.pr = true) (e0 : fnM K d = d.val) (h : prB K d = true) : PropOf K (ga K d.x) d.fl (pAd K d.x d.fl) (gAd K d.x d.fl) ∧ ∃ fd, FunD K d.fl d.qual d.params d.body d.scope [] [] (gAd K d.x d.fl) fd := by
  have e : fnA K (gAd K d.x d.fl) = (some (d.fl, d.qual, d.params, FuncBody.stmts d.body, d.scope, mainGlobals, [], builtinsNs) : FnS) := by
    unfold fnM MkD.val at e0
    rw [if_pos hpr, if_pos hpr] at e0
    exact e0
  obtain ⟨h1, h⟩ := ba h
  obtain ⟨h2, h⟩ := ba h
  obtain ⟨h3, h⟩ := ba h
  obtain ⟨h4, h⟩ := ba h
  obtain ⟨h5, h6⟩ := ba h
  refine ⟨⟨eqO_ok h1, eqO_ok h2, of_decide_eq_true h3, ?_⟩, ?_⟩
  · split at h4
    · rename_i g rest hq
      have := of_decide_eq_true h4
      subst this
      exact ⟨rest, hq⟩
    · cases h4
  · unfold fnA at e
    cases q : K.lookup (gAd K d.x d.fl) with
    | none => rw [q] at e; cases e
    | some o =>
      obtain ⟨oc, od, dt, osl⟩ := o
      rw [q] at e h6
      cases dt with
      | func fd =>
        obtain ⟨n1, n2, n3, n4, n5, n6, n7, n8, n9, n10, n11, n12, n13, n14, n15⟩ := fd
        have e2 : (some (n1, n2, n3, n4, n5, n6, n7.map (·.1), n15) : FnS) = some (d.fl, d.qual, d.params, FuncBody.stmts d.body, d.scope, mainGlobals, [], builtinsNs) := e
        simp only [Option.some.injEq, Prod.mk.injEq] at e2
        obtain ⟨k1, k2, k3, k4, k5, k6, k7, k8⟩ := e2
        have k7 : n7 = [] := List.map_eq_nil_iff.mp k7
        subst k1 k2 k3 k4 k5 k6 k7 k8
        have c3 : (PySem.W.codeIn K n13 d.qual && (dflB K n8 [] && kwdB K n9 [])) = true := h6
        obtain ⟨m1, m2⟩ := ba c3
        obtain ⟨m3, m4⟩ := ba m2
        exact ⟨_, ⟨oc, od, n8, n9, n10, n11, n12, n13, n14, osl, rfl, q, m1, dflB_ok m3, kwdB_ok m4⟩, h5⟩
      | _ => cases h6
end DW
set_option Elab.async false
set_option linter.all false
set_option maxRecDepth 100000
set_option maxHeartbeats 2000000
/-! DW2: the hook, the end -/
namespace DW
open PySem PySem.Spec PyProof.Rows L2 LamX He
abbrev AlZ : Type := AlX × List FnS
structure SaysZ (fa : List Fa) (fn : List DefD) (tf : List Defn) (mk : List MkD) (ex : PySem.W.Frag → Bool) (w : World) (h : Heap) (K : PySem.W.Frag) : Prop where
  x : SaysX fa fn [] tf ex w h K
  m : mk.map (fun d => fnM K d) = mk.map MkD.val
def obsZ (n : Nat) (fa : List Fa) (fn : List DefD) (tf : List Defn) (mk : List MkD) (ex : PySem.W.Frag → Bool) (g : Addr → Option Obj) : AlZ :=
  ((obsT fa fn [] (frT g (asZ g n)), ex (frT g (asZ g n)) && tabsB g tf (frT g (asZ g n))), mk.map fun d => fnM (frT g (asZ g n)) d)
def valZ (fn : List DefD) (mk : List MkD) (w : World) : AlZ := (valX fn [] w, mk.map MkD.val)
theorem saysZ_of {n : Nat} {fa : List Fa} {fn : List DefD} {tf : List Defn} {mk : List MkD} {ex : PySem.W.Frag → Bool} {w : World} {h : Heap} (e : obsZ n fa fn tf mk ex h.get? = valZ fn mk w) : SaysZ fa fn tf mk ex w h (frT h.get? (asZ h.get? n)) := by
  have e1 : obsT fa fn [] (frT h.get? (asZ h.get? n)) = valT fn [] w := congrArg (fun z : AlZ => z.1.1) e
  have e2 : (ex (frT h.get? (asZ h.get? n)) && tabsB h.get? tf (frT h.get? (asZ h.get? n))) = true := congrArg (fun z : AlZ => z.1.2) e
  have e3 : mk.map (fun d => fnM (frT h.get? (asZ h.get? n)) d) = mk.map MkD.val := congrArg (fun z : AlZ => z.2) e
  generalize hK : frT h.get? (asZ h.get? n) = K at e1 e2 e3 ⊢
  obtain ⟨g1, g2⟩ := ba e2
  have key : ∀ q ∈ tf, PySem.W.codeHdIn K (cT K q).1 (cT K q).2 = true ∧ ∃ o, h.get? (cT K q).2 = some o ∧ emptyTab o = true := fun q hq => by
    obtain ⟨g3, g4⟩ := ba (List.all_eq_true.mp g2 q hq)
    refine ⟨g3, ?_⟩
    cases z : h.get? (cT K q).2 with
    | none => rw [z] at g4; cases g4
    | some o => rw [z] at g4; exact ⟨o, rfl, g4⟩
  refine ⟨⟨e1, g1, fun q hq => (key q hq).1, fun q hq => ?_, fun q hq => ?_⟩, e3⟩
  · obtain ⟨_, o, z, y⟩ := key q hq
    rw [← hK] at z ⊢
    exact frT_none z y
  · obtain ⟨_, o, z, y⟩ := key q hq
    rw [z, emptyTab_eq y]
def hookZ (n : Nat) (fa : List Fa) (fn : List DefD) (tf : List Defn) (mk : List MkD) (ex : PySem.W.Frag → Bool) : PySem.W.Hook where
  α := AlZ
  obs := fun s => obsZ n fa fn tf mk ex s.heap.get?
  val := fun w => valZ fn mk w
  says := fun w h => ∃ K : PySem.W.Frag, K.In h ∧ SaysZ fa fn tf mk ex w h K
  of := fun _ _ e => ⟨_, frT_in, saysZ_of e⟩
  keeps := fun _ _ _ ⟨K, hK, c⟩ k => ⟨K, PySem.W.Frag.In.keeps hK k, ⟨⟨c.x.t, c.x.more, c.x.hd, c.x.out, fun q hq => k _ _ (c.x.empty q hq)⟩, c.m⟩⟩
theorem obsZ_eq {n : Nat} {fa : List Fa} {fn : List DefD} {tf : List Defn} {mk : List MkD} {ex : PySem.W.Frag → Bool} {g : Addr → Option Obj} {s : Shared} (h : ∀ a, g a = s.heap.get? a) : obsZ n fa fn tf mk ex g = (hookZ n fa fn tf mk ex).obs s := by
  have e : g = s.heap.get? := funext h
  rw [e] <;> rfl
section
variable {fa : List Fa} {fn : List DefD} {tf : List Defn} {mk : List MkD} {ex : PySem.W.Frag → Bool} {w : World} {h : Heap} {K : PySem.W.Frag}
theorem SaysZ.fact (c : SaysZ fa fn tf mk ex w h K) {f : Fa} (hf : f ∈ fa) : f.ok K = true := SaysD.facts (fn := fn) (congrArg (fun z : AlT => z.1) c.x.t) hf
theorem SaysZ.defs (c : SaysZ fa fn tf mk ex w h K) {d : DefD} (hd : d ∈ fn) : ∃ fd, FunD K d.name d.qual d.params d.body d.scope (d.dvs K) (d.kws K) (fAd K d.at_) fd := SaysD.defs (fa := fa) (congrArg (fun z : AlT => z.1) c.x.t) hd
theorem SaysZ.mk1 (c : SaysZ fa fn tf mk ex w h K) {d : MkD} (hd : d ∈ mk) : fnM K d = d.val := by
  obtain ⟨i, hi, e⟩ := List.mem_iff_getElem.mp hd
  have e2 : (mk.map fun d => fnM K d)[i]? = (mk.map MkD.val)[i]? := by rw [c.m]
  rw [List.getElem?_map, List.getElem?_map, List.getElem?_eq_getElem hi, e] at e2
  exact Option.some.inj e2
end
/-- the end of a law's row -/
theorem walk_ofZ {l : PySem.W.OpenLaw} {n k m : Nat} {q : Program} {loose : List Str} {XP : (Str → Option Value) → Heap → Prop} {d : DefRec} {CX : World → CXT} {x : Str} {fa : List Fa} {fn : List DefD} {tf : List Defn} {mk : List MkD} {ex : PySem.W.Frag → Bool}
    (hn : l.most = some n) (hn2 : n ≤ sizeLine) (hdf : d.params.defaults = []) (hr : Room k callerA)
    (F : ∀ (w : World) (mg : Str → Option Value) (fa' : Addr) (h : Heap) (K : PySem.W.Frag), K.In h → SaysZ fa fn tf mk ex w h K → h.Ns mainGlobals mg → mg d.name = some (.ref fa') →
      ∃ (fd : FuncData) (sp : Sp), (∀ (s : Shared) (u : Value), BindsTo s fd ⟨[u], []⟩ [(x, u)]) ∧
        (∀ (H : Hp) (a : Addr) (ns : List Int), ns.length ≤ n → (∀ z ∈ ns, Builtin.Int.intBits z ≤ 1048576) → (∀ p ∈ tf.map (cT K), H p.2 = some (.tbl #[])) → SqL K H a (ns.map V.int) → sp [.ref a] H (fun v _ => v = .bl true) fun _ _ _ => False) ∧
        ∀ base : Heap, K.In base → base.Ns mainGlobals mg → (∀ p ∈ tf.map (cT K), TabB base mg p.1 p.2) → FnOk l.prog w K mg base (CX w) k fa' fd [x] sp)
    (hCX : ∀ (w : World) (H : Hp) (s : Shared) (e : Value) (s' : Shared), CX w [] H s (fun _ _ _ => False) e s' → False) :
    PySem.W.WalkO q loose XP (hookZ m fa fn tf mk ex).says l.row.toRowW d [] (fun f vs => PySem.call f vs) := by
  refine Att.attach_callB hn hdf fun w s₀ s₁ mg mb fa' o pm cd doc a vs ns G Y ho hd hcd hmg hobj hints hlen hbits hg => ?_
  obtain ⟨K, KX, c⟩ := Y
  obtain ⟨fd, sp, hb, hsp, hF⟩ := F w mg fa' _ K KX c G.T.g hmg
  refine law_callTs (cs := tf.map (cT K)) KX G.T.g G.T.b G.T.builtins G.T.nolimit hg (fun p hp => ?_) (fun p hp => ?_) (fun p hp => ?_) G.T.bmain hobj hints (Nat.le_trans hlen hn2) hr hF hb (fun H hH hS => hsp H a ns hlen hbits hH hS) fun H e s' => hCX w H s₁ e s'
  · obtain ⟨y, hy, e⟩ := List.mem_map.mp hp
    rw [← e]
    exact c.x.empty y hy
  · obtain ⟨y, hy, e⟩ := List.mem_map.mp hp
    rw [← e]
    exact c.x.out y hy
  · obtain ⟨y, hy, e⟩ := List.mem_map.mp hp
    rw [← e]
    exact PySem.W.codeHd_of_K KX (c.x.hd y hy)
end DW
namespace DW
open PySem PySem.Spec PyProof.Rows L2 LamX He DL
def xcB (K : PySem.W.Frag) (C : Addr) : Bool :=
  (PySem.W.clsIn K C).isSome && (eqO (PySem.W.findIn K (.ref C) "__getattribute__") (some (some (.builtin "BaseException.__getattribute__"))) && (eqO (PySem.W.findIn K (.ref C) "__getattr__") (some none) && (decide (PySem.W.subIn K (.ref C) (.type "BaseException") = some true) &&
  (PySem.W.hasDictIn K C && (eqO (PySem.W.findIn K (.ref C) "__class__") (some (some (.builtin "object.__class__"))) && (eqO (PySem.W.specialIn K (.builtin "object.__class__") "__get__") (some (some (.builtin "getset_descriptor.__get__"))) &&
  (decide (PySem.W.takesIn K (.builtin "object.__class__") = some true) && decide (PySem.W.mroIn K C (.type "object") = some true))))))))
theorem xcB_ok {K : PySem.W.Frag} {C : Addr} (h : xcB K C = true) : XcC K C := by
  obtain ⟨h1, h⟩ := ba h
  obtain ⟨h2, h⟩ := ba h
  obtain ⟨h3, h⟩ := ba h
  obtain ⟨h4, h⟩ := ba h
  obtain ⟨h5, h⟩ := ba h
  obtain ⟨h6, h⟩ := ba h
  obtain ⟨h7, h⟩ := ba h
  obtain ⟨h8, h9⟩ := ba h
  exact ⟨h1, eqO_ok h2, eqO_ok h3, of_decide_eq_true h4, h5, eqO_ok h6, eqO_ok h7, of_decide_eq_true h8, of_decide_eq_true h9⟩
end DW
set_option Elab.async false
set_option linter.all false
set_option maxRecDepth 100000
/-! DW4: what is looked at of own classes -/
namespace DW
open PySem PySem.Spec PyProof.Rows L2 DL LamX He
def clsB2 (K : PySem.W.Frag) (cl : List Str) : Bool :=
  eqO (PySem.W.specialIn K (.builtin "object.__class__") "__get__") (some (some (.builtin "getset_descriptor.__get__"))) && (decide (PySem.W.takesIn K (.builtin "object.__class__") = some true) && cl.all fun C =>
    eqO (PySem.W.findIn K (.ref (ga K C)) "__class__") (some (some (.builtin "object.__class__"))) && (decide (PySem.W.mroIn K (ga K C) (.type "object") = some true) && ((tysN.all fun t => decide (PySem.W.kitOne K (.type t) (.ref (ga K C)) = some false)) &&
      cl.all fun C' => decide (PySem.W.kitOne K (.ref (ga K C')) (.ref (ga K C)) = some (decide (C' = C))))))
theorem isC_ok {K : PySem.W.Frag} {mg : Str → Option Value} {cl : List Str} (h : clsB2 K cl = true) (gl : ∀ C ∈ cl, mg C = some (.ref (ga K C))) (cs : ∀ C ∈ cl, Cls K (ga K C)) : ∀ C ∈ cl, IsC K mg cl C := fun C hC => by
  obtain ⟨h1, h⟩ := ba h
  obtain ⟨h2, h⟩ := ba h
  have h3 := List.all_eq_true.mp h
  obtain ⟨k1, k⟩ := ba (h3 C hC)
  obtain ⟨k2, k⟩ := ba k
  obtain ⟨k3, k4⟩ := ba k
  refine ⟨eqO_ok h1, of_decide_eq_true h2, ga K C, gl C hC, fun t ht => of_decide_eq_true (List.all_eq_true.mp k3 t ht), fun C' hC' => ⟨ga K C', gl C' hC', ?_, of_decide_eq_true (List.all_eq_true.mp k4 C' hC')⟩⟩
  obtain ⟨j1, j⟩ := ba (h3 C' hC')
  obtain ⟨j2, j⟩ := ba j
  exact ⟨cs C' hC', eqO_ok j1, of_decide_eq_true j2⟩
def eqB2 (K : PySem.W.Frag) (cl : List Str) (C : Str) : Bool :=
  eqO (PySem.W.findIn K (.ref (ga K C)) "__ne__") (some (some (.builtin "object.__ne__"))) && (decide (PySem.W.mroIn K (ga K C) (.type "object") = some true) && (decide (PySem.W.subIn K (.type "tuple") (.ref (ga K C)) = some false) &&
    cl.all fun C' => PySem.W.notFirst K (ga K C) (.ref (ga K C'))))
theorem eqC_ok {K : PySem.W.Frag} {mg : Str → Option Value} {cl : List Str} {C : Str} (h : eqB2 K cl C = true) (gl : ∀ C ∈ cl, mg C = some (.ref (ga K C))) :
    PySem.W.findIn K (.ref (ga K C)) "__ne__" = some (some (.builtin "object.__ne__")) ∧ PySem.W.mroIn K (ga K C) (.type "object") = some true ∧ PySem.W.subIn K (.type "tuple") (.ref (ga K C)) = some false ∧ ∀ C' ∈ cl, ∃ Cb, mg C' = some (.ref Cb) ∧ PySem.W.notFirst K (ga K C) (.ref Cb) = true := by
  obtain ⟨h1, h⟩ := ba h
  obtain ⟨h2, h⟩ := ba h
  obtain ⟨h3, h4⟩ := ba h
  exact ⟨eqO_ok h1, of_decide_eq_true h2, of_decide_eq_true h3, fun C' hC' => ⟨_, gl C' hC', List.all_eq_true.mp h4 C' hC'⟩⟩
theorem fldC_ok {K : PySem.W.Frag} {mg : Str → Option Value} {cs : List Str} {f : Str} (h : ∀ C ∈ cs, mg C = some (.ref (ga K C)) ∧ Cls K (ga K C) ∧ NoAttr K (ga K C) f) : FldC K mg cs f := fun C hC => ⟨_, h C hC⟩
end DW
set_option Elab.async false
set_option linter.all false
set_option maxRecDepth 100000
set_option maxHeartbeats 0
namespace K03
open PySem PySem.Spec PyProof.Rows L2 DL LamX DW SR
def dd_is_whole : He.DefD := ⟨(("is_whole" : Str), none), ("is_whole" : Str), ("is_whole" : Str), defArgs S_is_whole, defBody S_is_whole, defScope S_is_whole, [], []⟩
def dd_is_from : He.DefD := ⟨(("is_from" : Str), none), ("is_from" : Str), ("is_from" : Str), defArgs S_is_from, defBody S_is_from, defScope S_is_from, [], []⟩
def dd_is_below : He.DefD := ⟨(("is_below" : Str), none), ("is_below" : Str), ("is_below" : Str), defArgs S_is_below, defBody S_is_below, defScope S_is_below, [], []⟩
def dd_is_value : He.DefD := ⟨(("is_value" : Str), none), ("is_value" : Str), ("is_value" : Str), defArgs S_is_value, defBody S_is_value, defScope S_is_value, [], []⟩
def dd_wrong_at : He.DefD := ⟨(("wrong_at" : Str), none), ("wrong_at" : Str), ("wrong_at" : Str), defArgs S_wrong_at, defBody S_wrong_at, defScope S_wrong_at, [], []⟩
def dd_check_number : He.DefD := ⟨(("check_number" : Str), none), ("check_number" : Str), ("check_number" : Str), defArgs S_check_number, defBody S_check_number, defScope S_check_number, [], []⟩
def dd_check_modulus : He.DefD := ⟨(("check_modulus" : Str), none), ("check_modulus" : Str), ("check_modulus" : Str), defArgs S_check_modulus, defBody S_check_modulus, defScope S_check_modulus, [], []⟩
def dd_wrong_in_values : He.DefD := ⟨(("wrong_in_values" : Str), none), ("wrong_in_values" : Str), ("wrong_in_values" : Str), defArgs S_wrong_in_values, defBody S_wrong_in_values, defScope S_wrong_in_values, [], []⟩
def dd_check_row : He.DefD := ⟨(("check_row" : Str), none), ("check_row" : Str), ("check_row" : Str), defArgs S_check_row, defBody S_check_row, defScope S_check_row, [], []⟩
def dd_check_rule_of : He.DefD := ⟨(("check_rule_of" : Str), none), ("check_rule_of" : Str), ("check_rule_of" : Str), defArgs S_check_rule_of, defBody S_check_rule_of, defScope S_check_rule_of, [], []⟩
def dd_check_rule : He.DefD := ⟨(("check_rule" : Str), none), ("check_rule" : Str), ("check_rule" : Str), defArgs S_check_rule, defBody S_check_rule, defScope S_check_rule, [], []⟩
def dd_check_short_rule : He.DefD := ⟨(("check_short_rule" : Str), none), ("check_short_rule" : Str), ("check_short_rule" : Str), defArgs S_check_short_rule, defBody S_check_short_rule, defScope S_check_short_rule, [], []⟩
def dd_trimmed : He.DefD := ⟨(("trimmed" : Str), none), ("trimmed" : Str), ("trimmed" : Str), defArgs S_trimmed, defBody S_trimmed, defScope S_trimmed, [], []⟩
def dd_times_by : He.DefD := ⟨(("times_by" : Str), none), ("times_by" : Str), ("times_by" : Str), defArgs S_times_by, defBody S_times_by, defScope S_times_by, [], []⟩
def dd_inverse_of : He.DefD := ⟨(("inverse_of" : Str), none), ("inverse_of" : Str), ("inverse_of" : Str), defArgs S_inverse_of, defBody S_inverse_of, defScope S_inverse_of, [], []⟩
def dd_divided_by : He.DefD := ⟨(("divided_by" : Str), none), ("divided_by" : Str), ("divided_by" : Str), defArgs S_divided_by, defBody S_divided_by, defScope S_divided_by, [], []⟩
def dd_times_rest : He.DefD := ⟨(("times_rest" : Str), none), ("times_rest" : Str), ("times_rest" : Str), defArgs S_times_rest, defBody S_times_rest, defScope S_times_rest, [], []⟩
def dd_rest_power : He.DefD := ⟨(("rest_power" : Str), none), ("rest_power" : Str), ("rest_power" : Str), defArgs S_rest_power, defBody S_rest_power, defScope S_rest_power, [], []⟩
def dd_polynomial_by : He.DefD := ⟨(("polynomial_by" : Str), none), ("polynomial_by" : Str), ("polynomial_by" : Str), defArgs S_polynomial_by, defBody S_polynomial_by, defScope S_polynomial_by, [], []⟩
def dd_next_by : He.DefD := ⟨(("next_by" : Str), none), ("next_by" : Str), ("next_by" : Str), defArgs S_next_by, defBody S_next_by, defScope S_next_by, [], []⟩
def dd_broken_by : He.DefD := ⟨(("broken_by" : Str), none), ("broken_by" : Str), ("broken_by" : Str), defArgs S_broken_by, defBody S_broken_by, defScope S_broken_by, [], []⟩
def dd_keeps_by : He.DefD := ⟨(("keeps_by" : Str), none), ("keeps_by" : Str), ("keeps_by" : Str), defArgs S_keeps_by, defBody S_keeps_by, defScope S_keeps_by, [], []⟩
def dd_gone_by : He.DefD := ⟨(("gone_by" : Str), none), ("gone_by" : Str), ("gone_by" : Str), defArgs S_gone_by, defBody S_gone_by, defScope S_gone_by, [], []⟩
def dd_row_by : He.DefD := ⟨(("row_by" : Str), none), ("row_by" : Str), ("row_by" : Str), defArgs S_row_by, defBody S_row_by, defScope S_row_by, [], []⟩
def dd_value_with : He.DefD := ⟨(("value_with" : Str), none), ("value_with" : Str), ("value_with" : Str), defArgs S_value_with, defBody S_value_with, defScope S_value_with, [], []⟩
def dd_rest_at : He.DefD := ⟨(("rest_at" : Str), none), ("rest_at" : Str), ("rest_at" : Str), defArgs S_rest_at, defBody S_rest_at, defScope S_rest_at, [], []⟩
def dd_value_by : He.DefD := ⟨(("value_by" : Str), none), ("value_by" : Str), ("value_by" : Str), defArgs S_value_by, defBody S_value_by, defScope S_value_by, [], []⟩
def dd_state_by : He.DefD := ⟨(("state_by" : Str), none), ("state_by" : Str), ("state_by" : Str), defArgs S_state_by, defBody S_state_by, defScope S_state_by, [], []⟩
def dd_check_start : He.DefD := ⟨(("check_start" : Str), none), ("check_start" : Str), ("check_start" : Str), defArgs S_check_start, defBody S_check_start, defScope S_check_start, [], []⟩
def dd_Register___init__ : He.DefD := ⟨(("Register" : Str), some ("__init__" : Str)), ("__init__" : Str), ("Register.__init__" : Str), defArgs S_Register___init__, defBody S_Register___init__, defScope S_Register___init__, [], []⟩
def dd_Register___eq__ : He.DefD := ⟨(("Register" : Str), some ("__eq__" : Str)), ("__eq__" : Str), ("Register.__eq__" : Str), defArgs S_Register___eq__, defBody S_Register___eq__, defScope S_Register___eq__, [], []⟩
def dd_check_register : He.DefD := ⟨(("check_register" : Str), none), ("check_register" : Str), ("check_register" : Str), defArgs S_check_register, defBody S_check_register, defScope S_check_register, [], []⟩
def dd_row_of : He.DefD := ⟨(("row_of" : Str), none), ("row_of" : Str), ("row_of" : Str), defArgs S_row_of, defBody S_row_of, defScope S_row_of, [], []⟩
def dd_value_at : He.DefD := ⟨(("value_at" : Str), none), ("value_at" : Str), ("value_at" : Str), defArgs S_value_at, defBody S_value_at, defScope S_value_at, [], []⟩
def dd_state_at : He.DefD := ⟨(("state_at" : Str), none), ("state_at" : Str), ("state_at" : Str), defArgs S_state_at, defBody S_state_at, defScope S_state_at, [], []⟩
def dd_check_told : He.DefD := ⟨(("check_told" : Str), none), ("check_told" : Str), ("check_told" : Str), defArgs S_check_told, defBody S_check_told, defScope S_check_told, [], []⟩
def dd_keeps : He.DefD := ⟨(("keeps" : Str), none), ("keeps" : Str), ("keeps" : Str), defArgs S_keeps, defBody S_keeps, defScope S_keeps, [], []⟩
def dd_gone_on : He.DefD := ⟨(("gone_on" : Str), none), ("gone_on" : Str), ("gone_on" : Str), defArgs S_gone_on, defBody S_gone_on, defScope S_gone_on, [], []⟩
def dd_L_bowl : He.DefD := ⟨(("_law_bowl" : Str), none), ("_law_bowl" : Str), ("_law_bowl" : Str), defArgs S_L_bowl, defBody S_L_bowl, defScope S_L_bowl, [], []⟩
def dd_L_draw : He.DefD := ⟨(("_law_draw" : Str), none), ("_law_draw" : Str), ("_law_draw" : Str), defArgs S_L_draw, defBody S_L_draw, defScope S_L_draw, [], []⟩
def dd_L_of : He.DefD := ⟨(("_law_of" : Str), none), ("_law_of" : Str), ("_law_of" : Str), defArgs S_L_of, defBody S_L_of, defScope S_L_of, [], []⟩
def dd_L_same : He.DefD := ⟨(("_law_same" : Str), none), ("_law_same" : Str), ("_law_same" : Str), defArgs S_L_same, defBody S_L_same, defScope S_L_same, [], []⟩
def dd_L_rule : He.DefD := ⟨(("_law_rule" : Str), none), ("_law_rule" : Str), ("_law_rule" : Str), defArgs S_L_rule, defBody S_L_rule, defScope S_L_rule, [], []⟩
def dd_L_go : He.DefD := ⟨(("_law_go" : Str), none), ("_law_go" : Str), ("_law_go" : Str), defArgs S_L_go, defBody S_L_go, defScope S_L_go, [], []⟩
def dd_L_register : He.DefD := ⟨(("_law_register" : Str), none), ("_law_register" : Str), ("_law_register" : Str), defArgs S_L_register, defBody S_L_register, defScope S_L_register, [], []⟩
def dd_L_first : He.DefD := ⟨(("_law_first" : Str), none), ("_law_first" : Str), ("_law_first" : Str), defArgs S_L_first, defBody S_L_first, defScope S_L_first, [], []⟩
def dd_L_made : He.DefD := ⟨(("_law_made" : Str), none), ("_law_made" : Str), ("_law_made" : Str), defArgs S_L_made, defBody S_L_made, defScope S_L_made, [], []⟩
def dd_L_odd_modulus : He.DefD := ⟨(("_law_odd_modulus" : Str), none), ("_law_odd_modulus" : Str), ("_law_odd_modulus" : Str), defArgs S_L_odd_modulus, defBody S_L_odd_modulus, defScope S_L_odd_modulus, [], []⟩
def dd_L_odd_values : He.DefD := ⟨(("_law_odd_values" : Str), none), ("_law_odd_values" : Str), ("_law_odd_values" : Str), defArgs S_L_odd_values, defBody S_L_odd_values, defScope S_L_odd_values, [], []⟩
def dd_L_kept : He.DefD := ⟨(("_law_kept" : Str), none), ("_law_kept" : Str), ("_law_kept" : Str), defArgs S_L_kept, defBody S_L_kept, defScope S_L_kept, [], []⟩
def dd_L_register_right : He.DefD := ⟨(("_law_register_right" : Str), none), ("_law_register_right" : Str), ("_law_register_right" : Str), defArgs S_L_register_right, defBody S_L_register_right, defScope S_L_register_right, [], []⟩
def dd_L_right : He.DefD := ⟨(("_law_right" : Str), none), ("_law_right" : Str), ("_law_right" : Str), defArgs S_L_right, defBody S_L_right, defScope S_L_right, [], []⟩
def dd_law : He.DefD := ⟨(("law" : Str), none), ("law" : Str), ("law" : Str), defArgs S_law, defBody S_law, defScope S_law, [], []⟩
def fnL : List He.DefD := [dd_is_whole, dd_is_from, dd_is_below, dd_is_value, dd_wrong_at, dd_check_number, dd_check_modulus, dd_wrong_in_values, dd_check_row, dd_check_rule_of, dd_check_rule, dd_check_short_rule, dd_trimmed, dd_times_by, dd_inverse_of, dd_divided_by, dd_times_rest, dd_rest_power, dd_polynomial_by, dd_next_by, dd_broken_by, dd_keeps_by, dd_gone_by, dd_row_by, dd_value_with, dd_rest_at, dd_value_by, dd_state_by, dd_check_start, dd_Register___init__, dd_Register___eq__, dd_check_register, dd_row_of, dd_value_at, dd_state_at, dd_check_told, dd_keeps, dd_gone_on, dd_L_bowl, dd_L_draw, dd_L_of, dd_L_same, dd_L_rule, dd_L_go, dd_L_register, dd_L_first, dd_L_made, dd_L_odd_modulus, dd_L_odd_values, dd_L_kept, dd_L_register_right, dd_L_right, dd_law]
def faL : List He.Fa := [.glo ("is_whole" : Str), .glo ("is_from" : Str), .glo ("is_below" : Str), .glo ("is_value" : Str), .glo ("wrong_at" : Str), .glo ("check_number" : Str), .glo ("check_modulus" : Str), .glo ("wrong_in_values" : Str), .glo ("check_row" : Str), .glo ("check_rule_of" : Str), .glo ("check_rule" : Str), .glo ("check_short_rule" : Str), .glo ("trimmed" : Str), .glo ("times_by" : Str), .glo ("inverse_of" : Str), .glo ("divided_by" : Str), .glo ("times_rest" : Str), .glo ("rest_power" : Str), .glo ("polynomial_by" : Str), .glo ("next_by" : Str), .glo ("broken_by" : Str), .glo ("keeps_by" : Str), .glo ("gone_by" : Str), .glo ("row_by" : Str), .glo ("value_with" : Str), .glo ("rest_at" : Str), .glo ("value_by" : Str), .glo ("state_by" : Str), .glo ("check_start" : Str), .glo ("check_register" : Str), .glo ("row_of" : Str), .glo ("value_at" : Str), .glo ("state_at" : Str), .glo ("check_told" : Str), .glo ("keeps" : Str), .glo ("gone_on" : Str), .glo ("_law_bowl" : Str), .glo ("_law_draw" : Str), .glo ("_law_of" : Str), .glo ("_law_same" : Str), .glo ("_law_rule" : Str), .glo ("_law_go" : Str), .glo ("_law_register" : Str), .glo ("_law_first" : Str), .glo ("_law_made" : Str), .glo ("_law_odd_modulus" : Str), .glo ("_law_odd_values" : Str), .glo ("_law_kept" : Str), .glo ("_law_register_right" : Str), .glo ("_law_right" : Str), .glo ("law" : Str), .glo ("ShiftError" : Str), .glo ("Over" : Str), .glo ("InvalidNumber" : Str), .glo ("NotARegister" : Str), .glo ("InvalidRow" : Str), .glo ("InvalidRule" : Str), .glo ("InvalidStart" : Str), .glo ("Register" : Str), .glo ("MODULI" : Str), .glo ("ONE_ON" : Str), .free ("ValueError" : Str), .free ("abs" : Str), .free ("all" : Str), .free ("bool" : Str), .free ("divmod" : Str), .free ("enumerate" : Str), .free ("int" : Str), .free ("isinstance" : Str), .free ("len" : Str), .free ("list" : Str), .free ("max" : Str), .free ("min" : Str), .free ("range" : Str), .free ("str" : Str), .free ("sum" : Str), .free ("tuple" : Str), .free ("zip" : Str), .int ("MOST_PLACE" : Str) 1000000000000000000, .int ("MOST_TAPS" : Str) 10, .int ("MOST_VALUES" : Str) 60, .int ("TWO" : Str) 2, .exc ("Over" : Str), .cls ("Register" : Str), .mkr ("Register" : Str), .meth ("Register" : Str) ("__eq__" : Str), .noat ("Register" : Str) ("three" : Str)]
def tfL : List He.Defn := [(("wrong_in_values" : Str), none), (("check_start" : Str), none), (("_law_right" : Str), none)]
abbrev I_InvalidNumber : Stmt := (C8.clsBody (top 3)).getD 0 (.Pass ⟨0, 0, 0, 0⟩)
def mk_InvalidNumber : MkD := ⟨("InvalidNumber" : Str), ("given" : Str), ("InvalidNumber.__init__" : Str), defArgs I_InvalidNumber, defBody I_InvalidNumber, defScope I_InvalidNumber, false⟩
theorem good_InvalidNumber : Good PySem.Challenge.pw_shiftrows_k03_registers_their_parts_and mk_InvalidNumber where
  ex := ⟨_, _, _, _, _, _, _, _, _, _, _, _, rfl, rfl, rfl, rfl, fun _ _ _ _ => ⟨_, rfl⟩, fun _ _ _ _ _ _ _ _ _ => rfl⟩
  kind := rfl
  co := rfl
  gen := rfl
  s1 := rfl
  s2 := rfl
  s3 := rfl
  s4 := rfl
  s5 := by decide +kernel
  top := by decide +kernel
  fs := by decide
  fc := by decide
  fd := by decide
abbrev I_NotARegister : Stmt := (C8.clsBody (top 4)).getD 0 (.Pass ⟨0, 0, 0, 0⟩)
def mk_NotARegister : MkD := ⟨("NotARegister" : Str), ("given" : Str), ("NotARegister.__init__" : Str), defArgs I_NotARegister, defBody I_NotARegister, defScope I_NotARegister, false⟩
theorem good_NotARegister : Good PySem.Challenge.pw_shiftrows_k03_registers_their_parts_and mk_NotARegister where
  ex := ⟨_, _, _, _, _, _, _, _, _, _, _, _, rfl, rfl, rfl, rfl, fun _ _ _ _ => ⟨_, rfl⟩, fun _ _ _ _ _ _ _ _ _ => rfl⟩
  kind := rfl
  co := rfl
  gen := rfl
  s1 := rfl
  s2 := rfl
  s3 := rfl
  s4 := rfl
  s5 := by decide +kernel
  top := by decide +kernel
  fs := by decide
  fc := by decide
  fd := by decide
abbrev I_InvalidRow : Stmt := (C8.clsBody (top 5)).getD 0 (.Pass ⟨0, 0, 0, 0⟩)
def mk_InvalidRow : MkD := ⟨("InvalidRow" : Str), ("index" : Str), ("InvalidRow.__init__" : Str), defArgs I_InvalidRow, defBody I_InvalidRow, defScope I_InvalidRow, false⟩
theorem good_InvalidRow : Good PySem.Challenge.pw_shiftrows_k03_registers_their_parts_and mk_InvalidRow where
  ex := ⟨_, _, _, _, _, _, _, _, _, _, _, _, rfl, rfl, rfl, rfl, fun _ _ _ _ => ⟨_, rfl⟩, fun _ _ _ _ _ _ _ _ _ => rfl⟩
  kind := rfl
  co := rfl
  gen := rfl
  s1 := rfl
  s2 := rfl
  s3 := rfl
  s4 := rfl
  s5 := by decide +kernel
  top := by decide +kernel
  fs := by decide
  fc := by decide
  fd := by decide
abbrev I_InvalidRule : Stmt := (C8.clsBody (top 6)).getD 0 (.Pass ⟨0, 0, 0, 0⟩)
def mk_InvalidRule : MkD := ⟨("InvalidRule" : Str), ("index" : Str), ("InvalidRule.__init__" : Str), defArgs I_InvalidRule, defBody I_InvalidRule, defScope I_InvalidRule, false⟩
theorem good_InvalidRule : Good PySem.Challenge.pw_shiftrows_k03_registers_their_parts_and mk_InvalidRule where
  ex := ⟨_, _, _, _, _, _, _, _, _, _, _, _, rfl, rfl, rfl, rfl, fun _ _ _ _ => ⟨_, rfl⟩, fun _ _ _ _ _ _ _ _ _ => rfl⟩
  kind := rfl
  co := rfl
  gen := rfl
  s1 := rfl
  s2 := rfl
  s3 := rfl
  s4 := rfl
  s5 := by decide +kernel
  top := by decide +kernel
  fs := by decide
  fc := by decide
  fd := by decide
abbrev I_InvalidStart : Stmt := (C8.clsBody (top 7)).getD 0 (.Pass ⟨0, 0, 0, 0⟩)
def mk_InvalidStart : MkD := ⟨("InvalidStart" : Str), ("index" : Str), ("InvalidStart.__init__" : Str), defArgs I_InvalidStart, defBody I_InvalidStart, defScope I_InvalidStart, false⟩
theorem good_InvalidStart : Good PySem.Challenge.pw_shiftrows_k03_registers_their_parts_and mk_InvalidStart where
  ex := ⟨_, _, _, _, _, _, _, _, _, _, _, _, rfl, rfl, rfl, rfl, fun _ _ _ _ => ⟨_, rfl⟩, fun _ _ _ _ _ _ _ _ _ => rfl⟩
  kind := rfl
  co := rfl
  gen := rfl
  s1 := rfl
  s2 := rfl
  s3 := rfl
  s4 := rfl
  s5 := by decide +kernel
  top := by decide +kernel
  fs := by decide
  fc := by decide
  fd := by decide
def mk_Register_modulus : MkD := ⟨("Register" : Str), ("modulus" : Str), ("Register.modulus" : Str), defArgs S_Register_modulus, defBody S_Register_modulus, defScope S_Register_modulus, true⟩
def mk_Register_parts : MkD := ⟨("Register" : Str), ("parts" : Str), ("Register.parts" : Str), defArgs S_Register_parts, defBody S_Register_parts, defScope S_Register_parts, true⟩
def mk_Register_rule : MkD := ⟨("Register" : Str), ("rule" : Str), ("Register.rule" : Str), defArgs S_Register_rule, defBody S_Register_rule, defScope S_Register_rule, true⟩
def mk_Register_start : MkD := ⟨("Register" : Str), ("start" : Str), ("Register.start" : Str), defArgs S_Register_start, defBody S_Register_start, defScope S_Register_start, true⟩
def mkL : List MkD := [mk_InvalidNumber, mk_NotARegister, mk_InvalidRow, mk_InvalidRule, mk_InvalidStart, mk_Register_modulus, mk_Register_parts, mk_Register_rule, mk_Register_start]
def exB (K : PySem.W.Frag) : Bool := (mkL.all fun d => if d.pr = true then prB K d else mkB PySem.Challenge.pw_shiftrows_k03_registers_their_parts_and.main.file K d) && ((He.tupB K ("MODULI" : Str) [.int 2, .int 3, .int 5, .int 7] && (He.tupB K ("ONE_ON" : Str) [.int 0, .int 1] && (clsB2 K [("Register" : Str)] && (eqB2 K [("Register" : Str)] ("Register" : Str))))) && ((exL.all fun c => xcB K (He.ga K c) && (decide (PySem.W.kitOne K (.ref (He.ga K c)) (.type "ValueError") = some true) && (decide (PySem.W.exmOne K (.ref (He.ga K c)) (.ref (He.ga K "ShiftError")) = some true) && ([("given" : Str), ("index" : Str)] : List Str).all fun n => He.eqO (PySem.W.findIn K (.ref (He.ga K c)) n) (some none)))) && ((exL.all fun c => exL.all fun y => decide (PySem.W.kitOne K (.ref (He.ga K c)) (.ref (He.ga K y)) = some (decide (c = y)))) && decide ((TT K).map Prod.fst).Nodup)))
abbrev R_ : PySem.W.OpenRow := PySem.W.OpenLaw.row PySem.Challenge.rw_shiftrows_k03_registers_their_parts_and
abbrev hk : PySem.W.Hook := hookZ 6 faL fnL tfL mkL exB
def ob (s : PySem.W.SharedT) : AlZ := obsZ 6 faL fnL tfL mkL exB (HandSHeadRun.getT s)
theorem ob_eq (s : PySem.W.SharedT) : ob s = hk.obs s.abs := obsZ_eq (HandSHeadRun.getT_eq s)
def loose : List PySem.Str := ([("ShiftError" : Str), ("Over" : Str), ("InvalidNumber" : Str), ("NotARegister" : Str), ("InvalidRow" : Str), ("InvalidRule" : Str), ("InvalidStart" : Str), ("Register" : Str), ("MODULI" : Str), ("MOST_VALUES" : Str), ("MOST_TAPS" : Str), ("MOST_PLACE" : Str), ("TWO" : Str), ("ONE_ON" : Str), ("is_whole" : Str), ("is_from" : Str), ("is_below" : Str), ("is_value" : Str), ("wrong_at" : Str), ("check_number" : Str), ("check_modulus" : Str), ("wrong_in_values" : Str), ("check_row" : Str), ("check_rule_of" : Str), ("check_rule" : Str), ("check_short_rule" : Str), ("trimmed" : Str), ("times_by" : Str), ("inverse_of" : Str), ("divided_by" : Str), ("times_rest" : Str), ("rest_power" : Str), ("polynomial_by" : Str), ("next_by" : Str), ("broken_by" : Str), ("keeps_by" : Str), ("gone_by" : Str), ("row_by" : Str)] : List PySem.Str) ++ ([("value_with" : Str), ("rest_at" : Str), ("value_by" : Str), ("state_by" : Str), ("check_start" : Str), ("check_register" : Str), ("row_of" : Str), ("value_at" : Str), ("state_at" : Str), ("check_told" : Str), ("keeps" : Str), ("gone_on" : Str), ("_law_bowl" : Str), ("_law_draw" : Str), ("_law_of" : Str), ("_law_same" : Str), ("_law_rule" : Str), ("_law_go" : Str), ("_law_register" : Str), ("_law_first" : Str), ("_law_made" : Str), ("_law_odd_modulus" : Str), ("_law_odd_values" : Str), ("_law_kept" : Str), ("_law_register_right" : Str), ("_law_right" : Str)] : List PySem.Str)
theorem run (w : World) : HandSHeadRun.RunEq R_ (PySem.W.view R_.prog [73]) hk ob 40000 loose w := by
  intro os
  kernel_rfl
end K03
set_option Elab.async false
set_option linter.all false
set_option maxRecDepth 100000
set_option maxHeartbeats 0
namespace K03
open PySem PySem.Spec PyProof.Rows L2 DL LamX DW SR
section
variable {w : World} {K : PySem.W.Frag} {h base : Heap} {mg : Str → Option Value}
theorem gx (X : K.In h) (G : h.Ns mainGlobals mg) (c : SaysZ faL fnL tfL mkL exB w h K) : ∀ y ∈ exL, mg y = some (.ref (He.ga K y)) := by
  intro y hy
  simp only [exL, List.mem_cons, List.not_mem_nil, or_false] at hy
  rcases hy with rfl | rfl | rfl | rfl | rfl | rfl
  · exact (He.glo_ok X G (c.fact (List.mem_of_getElem? (i := 52) rfl)))
  · exact (He.glo_ok X G (c.fact (List.mem_of_getElem? (i := 53) rfl)))
  · exact (He.glo_ok X G (c.fact (List.mem_of_getElem? (i := 54) rfl)))
  · exact (He.glo_ok X G (c.fact (List.mem_of_getElem? (i := 55) rfl)))
  · exact (He.glo_ok X G (c.fact (List.mem_of_getElem? (i := 56) rfl)))
  · exact (He.glo_ok X G (c.fact (List.mem_of_getElem? (i := 57) rfl)))
theorem fx_of (X : K.In h) (G : h.Ns mainGlobals mg) (c : SaysZ faL fnL tfL mkL exB w h K) (TB : ∀ p ∈ tfL.map (He.cT K), TabB base mg p.1 p.2) : Fx PySem.Challenge.pw_shiftrows_k03_registers_their_parts_and w K mg base := by
  have ex : exB K = true := c.x.more
  unfold exB at ex
  obtain ⟨e1, ex⟩ := He.ba ex
  obtain ⟨e2, ex⟩ := He.ba ex
  obtain ⟨e3, ex⟩ := He.ba ex
  obtain ⟨e4, e5⟩ := He.ba ex
  obtain ⟨t0, e2⟩ := He.ba e2
  obtain ⟨t1, e2⟩ := He.ba e2
  obtain ⟨t2, e2⟩ := He.ba e2
  have t3 := e2
  have GLC : ∀ C ∈ ([("Register" : Str)] : List Str), mg C = some (.ref (He.ga K C)) := fun C hC => by
    simp only [List.mem_cons, List.not_mem_nil, or_false] at hC
    rcases hC with rfl
    · exact (He.glo_ok X G (c.fact (List.mem_of_getElem? (i := 58) rfl)))
  have CSC : ∀ C ∈ ([("Register" : Str)] : List Str), Cls K (He.ga K C) := fun C hC => by
    simp only [List.mem_cons, List.not_mem_nil, or_false] at hC
    rcases hC with rfl
    · exact He.cls_ok (c.fact (List.mem_of_getElem? (i := 83) rfl))
  have GX := gx X G c
  have ND : ((TT K).map Prod.fst).Nodup := of_decide_eq_true e5
  have E3 : ∀ y ∈ exL, _ := fun y hy => List.all_eq_true.mp e3 y hy
  have IX : ∀ {c0 : Str}, tkX c0 = some true → c0 ∈ exL := fun {c0} hh => by
    unfold tkX at hh
    split at hh
    · assumption
    · cases hh
  have IC : ∀ {c0 : Str} {C : Addr}, c0 ∈ exL → mg c0 = some (.ref C) → C = He.ga K c0 := fun hh hm => by
    rw [GX _ hh] at hm
    cases hm
    rfl
  have TBx : ∀ (x : Str) (f : Addr) (cdv : Value), (x, none) ∈ tfL → f = He.ga K x → (∃ fd q, FunD K x x (defArgs q) (defBody q) (defScope q) [] [] f fd) → (∃ (oc : Value) (od : Option Addr) (fd : FuncData) (osl : Array (Option Value)), K.lookup f = some (⟨oc, od, .func fd, osl⟩ : Obj) ∧ fd.code = cdv) → ∃ c, cdv = .ref c ∧ TabB base mg c (P_ K x) := fun x f cdv hx hf hF hc => by
    obtain ⟨oc, od, fd, osl, lk, ec⟩ := hc
    obtain ⟨fd2, q, oc2, od2, dV, kV, doc, pm, an, cdv2, ct, osl2, rfl, lk2, hcd, _, _⟩ := (show ∃ fd q, _ from hF).imp fun fd2 hh => hh.imp fun q F => F.ex
    rw [lk] at lk2
    cases lk2
    obtain ⟨c, hc⟩ := He.codeIn_ref hcd
    subst hc
    subst hf
    refine ⟨c, ec.symm, ?_⟩
    have hco : He.codeOf K (x, none) = c := He.codeOf_eq (p := (x, none)) lk rfl
    have := TB (He.cT K (x, none)) (List.mem_map.mpr ⟨_, hx, rfl⟩)
    rw [show (He.cT K (x, none)).1 = c from hco] at this
    exact this
  have TU : ∀ {P : Addr} {q : Str}, (P, q) ∈ TT K → ∀ p ∈ TT K, p.1 = P → p.2 = q := fun {P q} hm p hp e => by
    obtain ⟨i, hi⟩ := List.mem_iff_getElem?.mp hm
    obtain ⟨j, hj⟩ := List.mem_iff_getElem?.mp hp
    have h1 : ((TT K).map Prod.fst)[i]? = some P := by rw [List.getElem?_map, hi]; rfl
    have h2 : ((TT K).map Prod.fst)[j]? = some P := by rw [List.getElem?_map, hj]; exact congrArg some e
    have e3 := L2.nd_ix ND h1 h2
    subst e3
    rw [hi] at hj
    cases hj
    rfl
  exact {
    b_ValueError := He.free_ok X G (c.fact (List.mem_of_getElem? (i := 61) rfl))
    b_abs := He.free_ok X G (c.fact (List.mem_of_getElem? (i := 62) rfl))
    b_all := He.free_ok X G (c.fact (List.mem_of_getElem? (i := 63) rfl))
    b_bool := He.free_ok X G (c.fact (List.mem_of_getElem? (i := 64) rfl))
    b_divmod := He.free_ok X G (c.fact (List.mem_of_getElem? (i := 65) rfl))
    b_enumerate := He.free_ok X G (c.fact (List.mem_of_getElem? (i := 66) rfl))
    b_int := He.free_ok X G (c.fact (List.mem_of_getElem? (i := 67) rfl))
    b_isinstance := He.free_ok X G (c.fact (List.mem_of_getElem? (i := 68) rfl))
    b_len := He.free_ok X G (c.fact (List.mem_of_getElem? (i := 69) rfl))
    b_list := He.free_ok X G (c.fact (List.mem_of_getElem? (i := 70) rfl))
    b_max := He.free_ok X G (c.fact (List.mem_of_getElem? (i := 71) rfl))
    b_min := He.free_ok X G (c.fact (List.mem_of_getElem? (i := 72) rfl))
    b_range := He.free_ok X G (c.fact (List.mem_of_getElem? (i := 73) rfl))
    b_str := He.free_ok X G (c.fact (List.mem_of_getElem? (i := 74) rfl))
    b_sum := He.free_ok X G (c.fact (List.mem_of_getElem? (i := 75) rfl))
    b_tuple := He.free_ok X G (c.fact (List.mem_of_getElem? (i := 76) rfl))
    b_zip := He.free_ok X G (c.fact (List.mem_of_getElem? (i := 77) rfl))
    c_MODULI := ⟨_, (He.glo_ok X G (c.fact (List.mem_of_getElem? (i := 59) rfl))), by
      rcases He.tupB_ok t0 (fun _ => none) with (hh | ⟨_, hh⟩) | hh
      · cases hh
      · cases hh
      · exact hh⟩
    c_MOST_PLACE := He.int_ok X G (c.fact (List.mem_of_getElem? (i := 78) rfl))
    c_MOST_TAPS := He.int_ok X G (c.fact (List.mem_of_getElem? (i := 79) rfl))
    c_MOST_VALUES := He.int_ok X G (c.fact (List.mem_of_getElem? (i := 80) rfl))
    c_ONE_ON := ⟨_, (He.glo_ok X G (c.fact (List.mem_of_getElem? (i := 60) rfl))), by
      rcases He.tupB_ok t1 (fun _ => none) with (hh | ⟨_, hh⟩) | hh
      · cases hh
      · cases hh
      · exact hh⟩
    c_TWO := He.int_ok X G (c.fact (List.mem_of_getElem? (i := 81) rfl))
    x_InvalidNumber := ⟨_, _, _, _, (He.glo_ok X G (c.fact (List.mem_of_getElem? (i := 53) rfl))), mk_ok good_InvalidNumber (by have z := List.all_eq_true.mp e1 mk_InvalidNumber (List.mem_of_getElem? (i := 0) rfl); exact z) (c.mk1 (List.mem_of_getElem? (i := 0) rfl))⟩
    x_InvalidRow := ⟨_, _, _, _, (He.glo_ok X G (c.fact (List.mem_of_getElem? (i := 55) rfl))), mk_ok good_InvalidRow (by have z := List.all_eq_true.mp e1 mk_InvalidRow (List.mem_of_getElem? (i := 2) rfl); exact z) (c.mk1 (List.mem_of_getElem? (i := 2) rfl))⟩
    x_InvalidRule := ⟨_, _, _, _, (He.glo_ok X G (c.fact (List.mem_of_getElem? (i := 56) rfl))), mk_ok good_InvalidRule (by have z := List.all_eq_true.mp e1 mk_InvalidRule (List.mem_of_getElem? (i := 3) rfl); exact z) (c.mk1 (List.mem_of_getElem? (i := 3) rfl))⟩
    x_InvalidStart := ⟨_, _, _, _, (He.glo_ok X G (c.fact (List.mem_of_getElem? (i := 57) rfl))), mk_ok good_InvalidStart (by have z := List.all_eq_true.mp e1 mk_InvalidStart (List.mem_of_getElem? (i := 4) rfl); exact z) (c.mk1 (List.mem_of_getElem? (i := 4) rfl))⟩
    x_NotARegister := ⟨_, _, _, _, (He.glo_ok X G (c.fact (List.mem_of_getElem? (i := 54) rfl))), mk_ok good_NotARegister (by have z := List.all_eq_true.mp e1 mk_NotARegister (List.mem_of_getElem? (i := 1) rfl); exact z) (c.mk1 (List.mem_of_getElem? (i := 1) rfl))⟩
    x_Over := ⟨_, (He.glo_ok X G (c.fact (List.mem_of_getElem? (i := 52) rfl))), He.exc_ok (c.fact (List.mem_of_getElem? (i := 82) rfl))⟩
    fd_is_whole := by
      obtain ⟨fd, F⟩ := c.defs (d := dd_is_whole) (List.mem_of_getElem? (i := 0) rfl)
      exact ⟨_, fd, F, (He.glo_ok X G (c.fact (List.mem_of_getElem? (i := 0) rfl)))⟩
    fd_is_from := by
      obtain ⟨fd, F⟩ := c.defs (d := dd_is_from) (List.mem_of_getElem? (i := 1) rfl)
      exact ⟨_, fd, F, (He.glo_ok X G (c.fact (List.mem_of_getElem? (i := 1) rfl)))⟩
    fd_is_below := by
      obtain ⟨fd, F⟩ := c.defs (d := dd_is_below) (List.mem_of_getElem? (i := 2) rfl)
      exact ⟨_, fd, F, (He.glo_ok X G (c.fact (List.mem_of_getElem? (i := 2) rfl)))⟩
    fd_is_value := by
      obtain ⟨fd, F⟩ := c.defs (d := dd_is_value) (List.mem_of_getElem? (i := 3) rfl)
      exact ⟨_, fd, F, (He.glo_ok X G (c.fact (List.mem_of_getElem? (i := 3) rfl)))⟩
    fd_wrong_at := by
      obtain ⟨fd, F⟩ := c.defs (d := dd_wrong_at) (List.mem_of_getElem? (i := 4) rfl)
      exact ⟨_, fd, F, (He.glo_ok X G (c.fact (List.mem_of_getElem? (i := 4) rfl)))⟩
    fd_check_number := by
      obtain ⟨fd, F⟩ := c.defs (d := dd_check_number) (List.mem_of_getElem? (i := 5) rfl)
      exact ⟨_, fd, F, (He.glo_ok X G (c.fact (List.mem_of_getElem? (i := 5) rfl)))⟩
    fd_check_modulus := by
      obtain ⟨fd, F⟩ := c.defs (d := dd_check_modulus) (List.mem_of_getElem? (i := 6) rfl)
      exact ⟨_, fd, F, (He.glo_ok X G (c.fact (List.mem_of_getElem? (i := 6) rfl)))⟩
    fd_wrong_in_values := by
      obtain ⟨fd, F⟩ := c.defs (d := dd_wrong_in_values) (List.mem_of_getElem? (i := 7) rfl)
      exact ⟨_, fd, F, (He.glo_ok X G (c.fact (List.mem_of_getElem? (i := 7) rfl)))⟩
    fd_check_row := by
      obtain ⟨fd, F⟩ := c.defs (d := dd_check_row) (List.mem_of_getElem? (i := 8) rfl)
      exact ⟨_, fd, F, (He.glo_ok X G (c.fact (List.mem_of_getElem? (i := 8) rfl)))⟩
    fd_check_rule_of := by
      obtain ⟨fd, F⟩ := c.defs (d := dd_check_rule_of) (List.mem_of_getElem? (i := 9) rfl)
      exact ⟨_, fd, F, (He.glo_ok X G (c.fact (List.mem_of_getElem? (i := 9) rfl)))⟩
    fd_check_rule := by
      obtain ⟨fd, F⟩ := c.defs (d := dd_check_rule) (List.mem_of_getElem? (i := 10) rfl)
      exact ⟨_, fd, F, (He.glo_ok X G (c.fact (List.mem_of_getElem? (i := 10) rfl)))⟩
    fd_check_short_rule := by
      obtain ⟨fd, F⟩ := c.defs (d := dd_check_short_rule) (List.mem_of_getElem? (i := 11) rfl)
      exact ⟨_, fd, F, (He.glo_ok X G (c.fact (List.mem_of_getElem? (i := 11) rfl)))⟩
    fd_trimmed := by
      obtain ⟨fd, F⟩ := c.defs (d := dd_trimmed) (List.mem_of_getElem? (i := 12) rfl)
      exact ⟨_, fd, F, (He.glo_ok X G (c.fact (List.mem_of_getElem? (i := 12) rfl)))⟩
    fd_times_by := by
      obtain ⟨fd, F⟩ := c.defs (d := dd_times_by) (List.mem_of_getElem? (i := 13) rfl)
      exact ⟨_, fd, F, (He.glo_ok X G (c.fact (List.mem_of_getElem? (i := 13) rfl)))⟩
    fd_inverse_of := by
      obtain ⟨fd, F⟩ := c.defs (d := dd_inverse_of) (List.mem_of_getElem? (i := 14) rfl)
      exact ⟨_, fd, F, (He.glo_ok X G (c.fact (List.mem_of_getElem? (i := 14) rfl)))⟩
    fd_divided_by := by
      obtain ⟨fd, F⟩ := c.defs (d := dd_divided_by) (List.mem_of_getElem? (i := 15) rfl)
      exact ⟨_, fd, F, (He.glo_ok X G (c.fact (List.mem_of_getElem? (i := 15) rfl)))⟩
    fd_times_rest := by
      obtain ⟨fd, F⟩ := c.defs (d := dd_times_rest) (List.mem_of_getElem? (i := 16) rfl)
      exact ⟨_, fd, F, (He.glo_ok X G (c.fact (List.mem_of_getElem? (i := 16) rfl)))⟩
    fd_rest_power := by
      obtain ⟨fd, F⟩ := c.defs (d := dd_rest_power) (List.mem_of_getElem? (i := 17) rfl)
      exact ⟨_, fd, F, (He.glo_ok X G (c.fact (List.mem_of_getElem? (i := 17) rfl)))⟩
    fd_polynomial_by := by
      obtain ⟨fd, F⟩ := c.defs (d := dd_polynomial_by) (List.mem_of_getElem? (i := 18) rfl)
      exact ⟨_, fd, F, (He.glo_ok X G (c.fact (List.mem_of_getElem? (i := 18) rfl)))⟩
    fd_next_by := by
      obtain ⟨fd, F⟩ := c.defs (d := dd_next_by) (List.mem_of_getElem? (i := 19) rfl)
      exact ⟨_, fd, F, (He.glo_ok X G (c.fact (List.mem_of_getElem? (i := 19) rfl)))⟩
    fd_broken_by := by
      obtain ⟨fd, F⟩ := c.defs (d := dd_broken_by) (List.mem_of_getElem? (i := 20) rfl)
      exact ⟨_, fd, F, (He.glo_ok X G (c.fact (List.mem_of_getElem? (i := 20) rfl)))⟩
    fd_keeps_by := by
      obtain ⟨fd, F⟩ := c.defs (d := dd_keeps_by) (List.mem_of_getElem? (i := 21) rfl)
      exact ⟨_, fd, F, (He.glo_ok X G (c.fact (List.mem_of_getElem? (i := 21) rfl)))⟩
    fd_gone_by := by
      obtain ⟨fd, F⟩ := c.defs (d := dd_gone_by) (List.mem_of_getElem? (i := 22) rfl)
      exact ⟨_, fd, F, (He.glo_ok X G (c.fact (List.mem_of_getElem? (i := 22) rfl)))⟩
    fd_row_by := by
      obtain ⟨fd, F⟩ := c.defs (d := dd_row_by) (List.mem_of_getElem? (i := 23) rfl)
      exact ⟨_, fd, F, (He.glo_ok X G (c.fact (List.mem_of_getElem? (i := 23) rfl)))⟩
    fd_value_with := by
      obtain ⟨fd, F⟩ := c.defs (d := dd_value_with) (List.mem_of_getElem? (i := 24) rfl)
      exact ⟨_, fd, F, (He.glo_ok X G (c.fact (List.mem_of_getElem? (i := 24) rfl)))⟩
    fd_rest_at := by
      obtain ⟨fd, F⟩ := c.defs (d := dd_rest_at) (List.mem_of_getElem? (i := 25) rfl)
      exact ⟨_, fd, F, (He.glo_ok X G (c.fact (List.mem_of_getElem? (i := 25) rfl)))⟩
    fd_value_by := by
      obtain ⟨fd, F⟩ := c.defs (d := dd_value_by) (List.mem_of_getElem? (i := 26) rfl)
      exact ⟨_, fd, F, (He.glo_ok X G (c.fact (List.mem_of_getElem? (i := 26) rfl)))⟩
    fd_state_by := by
      obtain ⟨fd, F⟩ := c.defs (d := dd_state_by) (List.mem_of_getElem? (i := 27) rfl)
      exact ⟨_, fd, F, (He.glo_ok X G (c.fact (List.mem_of_getElem? (i := 27) rfl)))⟩
    fd_check_start := by
      obtain ⟨fd, F⟩ := c.defs (d := dd_check_start) (List.mem_of_getElem? (i := 28) rfl)
      exact ⟨_, fd, F, (He.glo_ok X G (c.fact (List.mem_of_getElem? (i := 28) rfl)))⟩
    fd_check_register := by
      obtain ⟨fd, F⟩ := c.defs (d := dd_check_register) (List.mem_of_getElem? (i := 31) rfl)
      exact ⟨_, fd, F, (He.glo_ok X G (c.fact (List.mem_of_getElem? (i := 29) rfl)))⟩
    fd_row_of := by
      obtain ⟨fd, F⟩ := c.defs (d := dd_row_of) (List.mem_of_getElem? (i := 32) rfl)
      exact ⟨_, fd, F, (He.glo_ok X G (c.fact (List.mem_of_getElem? (i := 30) rfl)))⟩
    fd_value_at := by
      obtain ⟨fd, F⟩ := c.defs (d := dd_value_at) (List.mem_of_getElem? (i := 33) rfl)
      exact ⟨_, fd, F, (He.glo_ok X G (c.fact (List.mem_of_getElem? (i := 31) rfl)))⟩
    fd_state_at := by
      obtain ⟨fd, F⟩ := c.defs (d := dd_state_at) (List.mem_of_getElem? (i := 34) rfl)
      exact ⟨_, fd, F, (He.glo_ok X G (c.fact (List.mem_of_getElem? (i := 32) rfl)))⟩
    fd_check_told := by
      obtain ⟨fd, F⟩ := c.defs (d := dd_check_told) (List.mem_of_getElem? (i := 35) rfl)
      exact ⟨_, fd, F, (He.glo_ok X G (c.fact (List.mem_of_getElem? (i := 33) rfl)))⟩
    fd_keeps := by
      obtain ⟨fd, F⟩ := c.defs (d := dd_keeps) (List.mem_of_getElem? (i := 36) rfl)
      exact ⟨_, fd, F, (He.glo_ok X G (c.fact (List.mem_of_getElem? (i := 34) rfl)))⟩
    fd_gone_on := by
      obtain ⟨fd, F⟩ := c.defs (d := dd_gone_on) (List.mem_of_getElem? (i := 37) rfl)
      exact ⟨_, fd, F, (He.glo_ok X G (c.fact (List.mem_of_getElem? (i := 35) rfl)))⟩
    fd_L_bowl := by
      obtain ⟨fd, F⟩ := c.defs (d := dd_L_bowl) (List.mem_of_getElem? (i := 38) rfl)
      exact ⟨_, fd, F, (He.glo_ok X G (c.fact (List.mem_of_getElem? (i := 36) rfl)))⟩
    fd_L_draw := by
      obtain ⟨fd, F⟩ := c.defs (d := dd_L_draw) (List.mem_of_getElem? (i := 39) rfl)
      exact ⟨_, fd, F, (He.glo_ok X G (c.fact (List.mem_of_getElem? (i := 37) rfl)))⟩
    fd_L_of := by
      obtain ⟨fd, F⟩ := c.defs (d := dd_L_of) (List.mem_of_getElem? (i := 40) rfl)
      exact ⟨_, fd, F, (He.glo_ok X G (c.fact (List.mem_of_getElem? (i := 38) rfl)))⟩
    fd_L_same := by
      obtain ⟨fd, F⟩ := c.defs (d := dd_L_same) (List.mem_of_getElem? (i := 41) rfl)
      exact ⟨_, fd, F, (He.glo_ok X G (c.fact (List.mem_of_getElem? (i := 39) rfl)))⟩
    fd_L_rule := by
      obtain ⟨fd, F⟩ := c.defs (d := dd_L_rule) (List.mem_of_getElem? (i := 42) rfl)
      exact ⟨_, fd, F, (He.glo_ok X G (c.fact (List.mem_of_getElem? (i := 40) rfl)))⟩
    fd_L_go := by
      obtain ⟨fd, F⟩ := c.defs (d := dd_L_go) (List.mem_of_getElem? (i := 43) rfl)
      exact ⟨_, fd, F, (He.glo_ok X G (c.fact (List.mem_of_getElem? (i := 41) rfl)))⟩
    fd_L_register := by
      obtain ⟨fd, F⟩ := c.defs (d := dd_L_register) (List.mem_of_getElem? (i := 44) rfl)
      exact ⟨_, fd, F, (He.glo_ok X G (c.fact (List.mem_of_getElem? (i := 42) rfl)))⟩
    fd_L_first := by
      obtain ⟨fd, F⟩ := c.defs (d := dd_L_first) (List.mem_of_getElem? (i := 45) rfl)
      exact ⟨_, fd, F, (He.glo_ok X G (c.fact (List.mem_of_getElem? (i := 43) rfl)))⟩
    fd_L_made := by
      obtain ⟨fd, F⟩ := c.defs (d := dd_L_made) (List.mem_of_getElem? (i := 46) rfl)
      exact ⟨_, fd, F, (He.glo_ok X G (c.fact (List.mem_of_getElem? (i := 44) rfl)))⟩
    fd_L_odd_modulus := by
      obtain ⟨fd, F⟩ := c.defs (d := dd_L_odd_modulus) (List.mem_of_getElem? (i := 47) rfl)
      exact ⟨_, fd, F, (He.glo_ok X G (c.fact (List.mem_of_getElem? (i := 45) rfl)))⟩
    fd_L_odd_values := by
      obtain ⟨fd, F⟩ := c.defs (d := dd_L_odd_values) (List.mem_of_getElem? (i := 48) rfl)
      exact ⟨_, fd, F, (He.glo_ok X G (c.fact (List.mem_of_getElem? (i := 46) rfl)))⟩
    fd_L_kept := by
      obtain ⟨fd, F⟩ := c.defs (d := dd_L_kept) (List.mem_of_getElem? (i := 49) rfl)
      exact ⟨_, fd, F, (He.glo_ok X G (c.fact (List.mem_of_getElem? (i := 47) rfl)))⟩
    fd_L_register_right := by
      obtain ⟨fd, F⟩ := c.defs (d := dd_L_register_right) (List.mem_of_getElem? (i := 50) rfl)
      exact ⟨_, fd, F, (He.glo_ok X G (c.fact (List.mem_of_getElem? (i := 48) rfl)))⟩
    fd_L_right := by
      obtain ⟨fd, F⟩ := c.defs (d := dd_L_right) (List.mem_of_getElem? (i := 51) rfl)
      exact ⟨_, fd, F, (He.glo_ok X G (c.fact (List.mem_of_getElem? (i := 49) rfl)))⟩
    fd_law := by
      obtain ⟨fd, F⟩ := c.defs (d := dd_law) (List.mem_of_getElem? (i := 52) rfl)
      exact ⟨_, fd, F, (He.glo_ok X G (c.fact (List.mem_of_getElem? (i := 50) rfl)))⟩
    cl_Register := by
      obtain ⟨fd, F⟩ := c.defs (d := dd_Register___init__) (List.mem_of_getElem? (i := 29) rfl)
      exact ⟨_, _, fd, (He.glo_ok X G (c.fact (List.mem_of_getElem? (i := 58) rfl))), He.mkr_ok (c.fact (List.mem_of_getElem? (i := 84) rfl)), F⟩
    is_Register := isC_ok t2 GLC CSC ("Register" : Str) (List.mem_of_getElem? (i := 0) rfl)
    eq_Register := by
      obtain ⟨fd, F⟩ := c.defs (d := dd_Register___eq__) (List.mem_of_getElem? (i := 30) rfl)
      obtain ⟨z1, z2, z3, z4⟩ := eqC_ok t3 GLC
      have zm := He.meth_ok (c.fact (List.mem_of_getElem? (i := 85) rfl))
      exact ⟨_, _, fd, (He.glo_ok X G (c.fact (List.mem_of_getElem? (i := 58) rfl))), zm.1, z1, zm.2, z2, z3, z4, F⟩
    pr_Register_modulus := by
      obtain ⟨z1, fd, F⟩ := pr_ok (d := mk_Register_modulus) rfl (c.mk1 (List.mem_of_getElem? (i := 5) rfl)) (by have z := List.all_eq_true.mp e1 mk_Register_modulus (List.mem_of_getElem? (i := 5) rfl); exact z)
      exact ⟨_, _, _, fd, (He.glo_ok X G (c.fact (List.mem_of_getElem? (i := 58) rfl))), He.cls_ok (c.fact (List.mem_of_getElem? (i := 83) rfl)), z1, F⟩
    pr_Register_parts := by
      obtain ⟨z1, fd, F⟩ := pr_ok (d := mk_Register_parts) rfl (c.mk1 (List.mem_of_getElem? (i := 6) rfl)) (by have z := List.all_eq_true.mp e1 mk_Register_parts (List.mem_of_getElem? (i := 6) rfl); exact z)
      exact ⟨_, _, _, fd, (He.glo_ok X G (c.fact (List.mem_of_getElem? (i := 58) rfl))), He.cls_ok (c.fact (List.mem_of_getElem? (i := 83) rfl)), z1, F⟩
    pr_Register_rule := by
      obtain ⟨z1, fd, F⟩ := pr_ok (d := mk_Register_rule) rfl (c.mk1 (List.mem_of_getElem? (i := 7) rfl)) (by have z := List.all_eq_true.mp e1 mk_Register_rule (List.mem_of_getElem? (i := 7) rfl); exact z)
      exact ⟨_, _, _, fd, (He.glo_ok X G (c.fact (List.mem_of_getElem? (i := 58) rfl))), He.cls_ok (c.fact (List.mem_of_getElem? (i := 83) rfl)), z1, F⟩
    pr_Register_start := by
      obtain ⟨z1, fd, F⟩ := pr_ok (d := mk_Register_start) rfl (c.mk1 (List.mem_of_getElem? (i := 8) rfl)) (by have z := List.all_eq_true.mp e1 mk_Register_start (List.mem_of_getElem? (i := 8) rfl); exact z)
      exact ⟨_, _, _, fd, (He.glo_ok X G (c.fact (List.mem_of_getElem? (i := 58) rfl))), He.cls_ok (c.fact (List.mem_of_getElem? (i := 83) rfl)), z1, F⟩
    fld_three := fldC_ok fun C hC => by
      simp only [List.mem_cons, List.not_mem_nil, or_false] at hC
      rcases hC with rfl
      · exact ⟨(He.glo_ok X G (c.fact (List.mem_of_getElem? (i := 58) rfl))), He.cls_ok (c.fact (List.mem_of_getElem? (i := 83) rfl)), He.noat_ok (c.fact (List.mem_of_getElem? (i := 86) rfl))⟩
    tab_wrong_in_values := fun f cdv hm hc => by
      rw [(He.glo_ok X G (c.fact (List.mem_of_getElem? (i := 7) rfl)))] at hm
      cases hm
      obtain ⟨fd, F⟩ := c.defs (d := dd_wrong_in_values) (List.mem_of_getElem? (i := 7) rfl)
      exact TBx ("wrong_in_values" : Str) _ cdv (List.mem_of_getElem? (i := 0) rfl) rfl ⟨fd, S_wrong_in_values, F⟩ hc
    tun_wrong_in_values := TU (tmem_wrong_in_values K)
    tab_check_start := fun f cdv hm hc => by
      rw [(He.glo_ok X G (c.fact (List.mem_of_getElem? (i := 28) rfl)))] at hm
      cases hm
      obtain ⟨fd, F⟩ := c.defs (d := dd_check_start) (List.mem_of_getElem? (i := 28) rfl)
      exact TBx ("check_start" : Str) _ cdv (List.mem_of_getElem? (i := 1) rfl) rfl ⟨fd, S_check_start, F⟩ hc
    tun_check_start := TU (tmem_check_start K)
    tab_L_right := fun f cdv hm hc => by
      rw [(He.glo_ok X G (c.fact (List.mem_of_getElem? (i := 49) rfl)))] at hm
      cases hm
      obtain ⟨fd, F⟩ := c.defs (d := dd_L_right) (List.mem_of_getElem? (i := 51) rfl)
      exact TBx ("_law_right" : Str) _ cdv (List.mem_of_getElem? (i := 2) rfl) rfl ⟨fd, S_L_right, F⟩ hc
    tun_L_right := TU (tmem_L_right K)
    xg_ShiftError := ⟨_, (He.glo_ok X G (c.fact (List.mem_of_getElem? (i := 51) rfl)))⟩
    xg_Over := ⟨_, (He.glo_ok X G (c.fact (List.mem_of_getElem? (i := 52) rfl)))⟩
    xg_InvalidNumber := ⟨_, (He.glo_ok X G (c.fact (List.mem_of_getElem? (i := 53) rfl)))⟩
    xg_NotARegister := ⟨_, (He.glo_ok X G (c.fact (List.mem_of_getElem? (i := 54) rfl)))⟩
    xg_InvalidRow := ⟨_, (He.glo_ok X G (c.fact (List.mem_of_getElem? (i := 55) rfl)))⟩
    xg_InvalidRule := ⟨_, (He.glo_ok X G (c.fact (List.mem_of_getElem? (i := 56) rfl)))⟩
    xg_InvalidStart := ⟨_, (He.glo_ok X G (c.fact (List.mem_of_getElem? (i := 57) rfl)))⟩
    xc := fun c0 C hm ht => by
      rw [IC (IX ht) hm]
      exact xcB_ok (He.ba (E3 c0 (IX ht))).1
    xk := fun c0 C y D b hm hm2 hb => by
      unfold isX at hb
      split at hb
      · rename_i hh
        cases hb
        rw [IC hh.1 hm, IC hh.2 hm2]
        exact of_decide_eq_true (List.all_eq_true.mp (List.all_eq_true.mp e4 c0 hh.1) y hh.2)
      · cases hb
    xv := fun c0 C hm ht => by
      rw [IC (IX ht) hm]
      exact of_decide_eq_true (He.ba (He.ba (E3 c0 (IX ht))).2).1
    xe := fun c0 C CS b hm hm2 ht => by
      unfold tkX at ht
      split at ht
      · rename_i hh
        cases ht
        rw [(He.glo_ok X G (c.fact (List.mem_of_getElem? (i := 51) rfl)))] at hm2
        cases hm2
        rw [IC hh hm]
        exact of_decide_eq_true (He.ba (He.ba (He.ba (E3 c0 hh)).2).2).1
      · cases ht
    xa_given := fun c0 C hm ht => by
      rw [IC (IX ht) hm]
      exact He.eqO_ok (List.all_eq_true.mp (He.ba (He.ba (He.ba (E3 c0 (IX ht))).2).2).2 ("given" : Str) (List.mem_of_getElem? (i := 0) rfl))
    xa_index := fun c0 C hm ht => by
      rw [IC (IX ht) hm]
      exact He.eqO_ok (List.all_eq_true.mp (He.ba (He.ba (He.ba (E3 c0 (IX ht))).2).2).2 ("index" : Str) (List.mem_of_getElem? (i := 1) rfl))
  }
end
end K03
set_option Elab.async false
set_option linter.all false
set_option maxRecDepth 100000
set_option maxHeartbeats 0
/-! DW3: a law's end, by its plain meaning -/
namespace DW
open PySem PySem.Spec PyProof.Rows L2 DL LamX
/-- the start: the store is empty -/
theorem start_rel {K : PySem.W.Frag} {mg : Str → Option Value} {T : List (Addr × Str)} {H : Hp} (hT : Tabs T H) : Rel ⟨K, mg, T⟩ ⟨fun _ => False, H, []⟩ [] ow0 [] [] [] H where
  lenE := rfl
  lenO := rfl
  slot := fun i d e => by simp at e
  own := fun i d e => by simp at e
  tmp := fun a ds h => by simp at h
  owI := fun i j a e => by simp at e
  tmI := .nil
  owT := fun a h => by simp at h
  owN := fun a h => by simp [Ow.has] at h
  cells := fun n c e => by simp at e
  nd := .nil
  pre := List.prefix_refl _
  new := fun a h => by simp at h
  there := fun a h => by simp at h
  u0 := fun a h => h.elim
  keep := fun a o _ h _ => h
  tabs := hT
  lenS := rfl
  owE := fun i a e => by simp at e
theorem start_scr {K : PySem.W.Frag} {mg : Str → Option Value} {T : List (Addr × Str)} {H : Hp} {a : Addr} {ns : List Int} (h : SqL K H a (ns.map V.int)) : Rep ⟨K, mg, T⟩ [] (mutA ⟨fun _ => False, H, []⟩ [] ow0) H (.ref a) (.scr ns) := by
  have nu : ¬ mutA ⟨fun _ => False, H, []⟩ [] ow0 a := fun z => by
    rcases z with z | z | z
    · exact z
    · simp at z
    · simp [Ow.has] at z
  rcases h with (h | ⟨o, h⟩) | h
  · exact .scr h (.inl rfl) nu
  · exact .scr h (.inr ⟨_, rfl⟩) nu
  · exact .scrK h
/-- a law's promise, from its plain meaning -/
theorem sp_law {K : PySem.W.Frag} {mg : Str → Option Value} {T : List (Addr × Str)} {H : Hp} {a : Addr} {ns : List Int} {m : MF} {S' : Sto} (hT : Tabs T H) (h : SqL K H a (ns.map V.int)) (e : m [.scr ns] [] = .ok (.bl true) S') : spOf ⟨K, mg, T⟩ 1 m [.ref a] H (fun v _ => v = .bl true) fun _ _ _ => False := by
  refine ⟨rfl, [], fun _ => False, [], [.scr ns], start_rel hT, .cons (start_scr h) .nil, ?_⟩
  rw [e]
  intro φ' H' v _ r
  exact r.ofBl
theorem cx_none (P : Program) (w : World) (H : Hp) (s : Shared) (e : Value) (s' : Shared) (h : L2.CX P w [] H s (fun _ _ _ => False) e s') : False := by
  obtain ⟨_, _, _, _, _, _, _, _, _, _, _, _, z⟩ := h
  exact z
end DW
set_option Elab.async false
set_option linter.all false
set_option maxRecDepth 100000
set_option maxHeartbeats 4000000
namespace SR
open PySem PySem.Spec PyProof.Rows L2 DL LamX
section
variable {S : Sto} {d : D} {p : Int} {n : Nat} {e : En}
@[simp] theorem se5 {n : Nat} {a b c d e : D} : startE n [a, b, c, d, e] = .val a :: .val b :: .val c :: .val d :: .val e :: List.replicate (n - 5) .hid := rfl
@[simp] theorem pk5 {a b c d e : D} : pick [0, 1, 2, 3, 4] [a, b, c, d, e] = [a, b, c, d, e] := rfl
@[simp] theorem pk2r {a b : D} : pick [1, 0] [a, b] = [b, a] := rfl
@[simp] theorem se1 {n : Nat} {a : D} : startE n [a] = .val a :: List.replicate (n - 1) .hid := rfl
@[simp] theorem se2 {n : Nat} {a b : D} : startE n [a, b] = .val a :: .val b :: List.replicate (n - 2) .hid := rfl
@[simp] theorem se3 {n : Nat} {a b c : D} : startE n [a, b, c] = .val a :: .val b :: .val c :: List.replicate (n - 3) .hid := rfl
@[simp] theorem se4 {n : Nat} {a b c d : D} : startE n [a, b, c, d] = .val a :: .val b :: .val c :: .val d :: List.replicate (n - 4) .hid := rfl
@[simp] theorem pk1 {a : D} : pick [0] [a] = [a] := rfl
@[simp] theorem pk2 {a b : D} : pick [0, 1] [a, b] = [a, b] := rfl
@[simp] theorem pk3 {a b c : D} : pick [0, 1, 2] [a, b, c] = [a, b, c] := rfl
@[simp] theorem pk4 {a b c d : D} : pick [0, 1, 2, 3] [a, b, c, d] = [a, b, c, d] := rfl
@[simp] theorem pk3r {a b c : D} : pick [2, 1, 0] [a, b, c] = [c, b, a] := rfl
@[simp] theorem pk4r {a b c d : D} : pick [3, 2, 1, 0] [a, b, c, d] = [d, c, b, a] := rfl
/-- a whole number from a to b -/
def fromD (d : D) (a b : Int) : Bool := match d with
  | .int i => decide (a ≤ i) && decide (i ≤ b)
  | _ => false
/-- the first ill place -/
def illL (p most : Int) : Nat → List D → Option Nat
  | _, [] => none
  | i, d :: ds => if most ≤ (i : Int) ∨ fromD d 0 (p - 1) = false then some i else illL p most (i + 1) ds
def illD (p most : Int) : D → Option D
  | .tup ds => (illL p most 0 ds).map fun i => .int (i : Nat)
  | _ => some .non
theorem wrong_l {p most : Int} {act : MF} {xs : List D} (ha : ∀ x d S, Pl d → act [x, d] S = .ok (.bl (fromD d 0 (p - 1))) S) : ∀ (ds : List D) (i : Nat) (S : Sto), (∀ d ∈ ds, Pl d) → wrongL act xs most i ds S = .ok (.lst ((illL p most i ds).map fun i => D.int (i : Nat)).toList) S
  | [], i, S, _ => rfl
  | d :: ds, i, S, h => by
    unfold wrongL illL
    by_cases hm : most ≤ (i : Int)
    · simp [hm]
    · rw [if_neg hm, ha _ d S (h d (by simp))]
      cases e : fromD d 0 (p - 1) with
      | true =>
        simp [hm]
        exact wrong_l ha ds (i + 1) S fun d hd => h d (by simp [hd])
      | false => simp
def PlL : D → Prop
  | .tup ds => ∀ d ∈ ds, Pl d
  | d => Pl d
theorem dEq_nil {l : List Int} : dEq S (.lst (l.map .int)) (.lst []) = some (.bl (decide (l = []))) := dEq_lst (m := [])
theorem dNe_nil {l : List Int} : dNe S (.lst (l.map .int)) (.lst []) = some (.bl (!decide (l = []))) := dNe_lst (m := [])
theorem rng2_nat {i j : Nat} (hi : i ≤ 1000) (hj : j ≤ 1000) : rng2 S [.int (i : Int), .int (j : Int)] = some ((List.range (j - i)).map fun k => D.int ((i : Int) + (k : Nat))) := by
  unfold rng2
  have h : (-1000000 : Int) ≤ i ∧ (i : Int) ≤ 1000000 ∧ (-1000000 : Int) ≤ j ∧ (j : Int) ≤ 1000000 := by omega
  have e : ((j : Int) - (i : Int)).toNat = j - i := by omega
  simp only [h, e, and_self, if_true]
theorem rng1_nat {j : Nat} (hj : j ≤ 1000) : rng1 S [.int (j : Int)] = some ((List.range j).map fun k => D.int (0 + (k : Nat))) := by
  unfold rng1
  have h : (-1000000 : Int) ≤ j ∧ (j : Int) ≤ 1000000 := by omega
  simp only [h, and_self, if_true, Int.toNat_natCast]
theorem cut_end {l : List Int} {n : Nat} (h : n ≤ l.length) : cutL (l.map D.int) (some ((l.length : Int) - (n : Int))) none = (l.drop (l.length - n)).map D.int := by
  rw [show (l.length : Int) - (n : Int) = ((l.length - n : Nat) : Int) by omega, cut_map, cut_from _ _ (by omega)]
theorem plL_tI {l : List Int} : PlL (tI l) := fun d hd => by
  obtain ⟨i, _, rfl⟩ := List.mem_map.mp hd
  exact fun z => by cases z
theorem ix0 {l : List Int} {x : Int} : dIx S (.lst ((x :: l).map .int)) (.int 0) = some (.int x) := by
  show atI ((x :: l).map D.int) ((0 : Nat) : Int) = _
  rw [DL.atI_nat (by simp)]
  rfl
theorem ints_of {a b : Int} : ∀ {ys : List D}, (∀ y ∈ ys, ∃ k : Int, y = .int k ∧ a ≤ k ∧ k < b) → ∃ l : List Int, ys = l.map D.int ∧ ∀ x ∈ l, a ≤ x ∧ x < b
  | [], _ => ⟨[], rfl, by simp⟩
  | y :: ys, h => by
    obtain ⟨k, rfl, hk⟩ := h y (by simp)
    obtain ⟨l, rfl, hl⟩ := ints_of (ys := ys) fun z hz => h z (by simp [hz])
    exact ⟨k :: l, rfl, by simpa using ⟨hk, hl⟩⟩
theorem rng1_int {j : Int} (h0 : -1000 ≤ j) (h1 : j ≤ 1000) : rng1 S [.int j] = some ((List.range j.toNat).map fun k => D.int (0 + (k : Nat))) := by
  unfold rng1
  have h : (-1000000 : Int) ≤ j ∧ j ≤ 1000000 := by omega
  simp only [h, and_self, if_true]
theorem flat_rep {x : D} : ∀ m : Nat, (List.replicate m [x]).flatten = List.replicate m x
  | 0 => rfl
  | m + 1 => by rw [List.replicate_succ, List.flatten_cons, flat_rep m]; rfl
theorem rep1 {x j : Int} (h0 : -1000 ≤ j) (h1 : j ≤ 1000) : dMul S (.tup [.int x]) (.int j) = some (tI (List.replicate j.toNat x)) := by
  show (if -1000 ≤ j ∧ j ≤ 1000 ∧ [D.int x].length ≤ 1000 then some (D.tup (List.replicate j.toNat [D.int x]).flatten) else none) = _
  rw [if_pos ⟨h0, h1, by simp⟩, flat_rep]
  simp
theorem add_tI {l m : List Int} (h : l.length + m.length ≤ 100000) : dAdd S (tI l) (tI m) = some (tI (l ++ m)) := by
  show (if (l.map D.int).length + (m.map D.int).length ≤ 100000 then some (D.tup (l.map D.int ++ m.map D.int)) else none) = _
  rw [if_pos (by simpa using h), ← List.map_append]
theorem dEq_tnil {l : List Int} : dEq S (tI l) (.tup []) = some (.bl (decide (l = []))) := dEq_tup (m := [])
theorem dNe_tnil {l : List Int} : dNe S (tI l) (.tup []) = some (.bl (!decide (l = []))) := dNe_tup (m := [])
theorem cut_from2 {α : Type} (xs : List α) (i : Nat) : cutL xs (some (i : Int)) none = xs.drop i := by
  by_cases h : i ≤ xs.length
  · exact cut_from xs i h
  · unfold cutL
    rw [HT.sIx_nat, Nat.min_eq_right (by omega), HT.sIx_none]
    simp
    omega
theorem dAdd_tups {a b : List D} (h : a.length + b.length ≤ 100000) : dAdd S (.tup a) (.tup b) = some (.tup (a ++ b)) := if_pos h
@[simp] theorem hide_nil : hideE [] = [] := rfl
@[simp] theorem hide_val : hideE (.val d :: e) = .val d :: hideE e := rfl
@[simp] theorem hide_hid : hideE (.hid :: e) = .hid :: hideE e := rfl
def hideS : Slot → Slot
  | .own _ => .hid
  | s => s
theorem hide_cons {s : Slot} : hideE (s :: e) = hideS s :: hideE e := by
  cases s <;> rfl
@[simp] theorem hideS_val : hideS (.val d) = .val d := rfl
theorem dNe_bl {a b : Bool} : dNe S (.bl a) (.bl b) = some (.bl (!decide (a = b))) := by cases a <;> cases b <;> rfl
theorem mul2 : dMul S (.tup [d]) (.int 2) = some (.tup [d, d]) := rfl
theorem mul3 : dMul S (.tup [d]) (.int 3) = some (.tup [d, d, d]) := rfl
theorem loop2 {b : D → MS} {x y : D} {e e1 e2 : En} {S S1 S2 : Sto} (h1 : b x e S = .nx e1 S1) (h2 : b y e1 S1 = .nx e2 S2) : loopS b [x, y] e S = .nx e2 S2 := by
  show (match b x e S with | .nx e1 S1 => loopS b [y] e1 S1 | .ct e1 S1 => loopS b [y] e1 S1 | .bk e1 S1 => .nx e1 S1 | r => r) = _
  rw [h1]
  show (match b y e1 S1 with | .nx e1 S1 => loopS b [] e1 S1 | .ct e1 S1 => loopS b [] e1 S1 | .bk e1 S1 => .nx e1 S1 | r => r) = _
  rw [h2]
  rfl
theorem all_true : ∀ {ys : List D}, (∀ y ∈ ys, y = .bl true) → ∃ l, toBls ys = some l ∧ l.all id = true
  | [], _ => ⟨[], rfl, rfl⟩
  | y :: ys, h => by
    obtain ⟨l, e1, e2⟩ := all_true (ys := ys) fun z hz => h z (by simp [hz])
    have := h y (by simp)
    subst this
    refine ⟨true :: l, ?_, by simp at e2 ⊢; exact e2⟩
    show (toBls ys).map (true :: ·) = _
    rw [e1]
    rfl
def firstD : List Int → D
  | [] => .non
  | x :: _ => .int x
end
end SR
set_option Elab.async false
set_option linter.all false
set_option maxRecDepth 100000
/-! PP: polynomials with whole coefficients, modulo p; plain -/
namespace PP
/-! ### congruence -/
def cg (p a b : Int) : Prop := p ∣ a - b
section
variable {p a b c d : Int}
theorem cg.refl (p a : Int) : cg p a a := ⟨0, by omega⟩
theorem cg.of_eq (h : a = b) : cg p a b := h ▸ cg.refl p a
theorem cg.symm (h : cg p a b) : cg p b a := by obtain ⟨k, hk⟩ := h; exact ⟨-k, by grind⟩
theorem cg.trans (h : cg p a b) (g : cg p b c) : cg p a c := by obtain ⟨k, hk⟩ := h; obtain ⟨l, hl⟩ := g; exact ⟨k + l, by grind⟩
theorem cg.add (h : cg p a b) (g : cg p c d) : cg p (a + c) (b + d) := by obtain ⟨k, hk⟩ := h; obtain ⟨l, hl⟩ := g; exact ⟨k + l, by grind⟩
theorem cg.sub (h : cg p a b) (g : cg p c d) : cg p (a - c) (b - d) := by obtain ⟨k, hk⟩ := h; obtain ⟨l, hl⟩ := g; exact ⟨k - l, by grind⟩
theorem cg.mul (h : cg p a b) (g : cg p c d) : cg p (a * c) (b * d) := by obtain ⟨k, hk⟩ := h; obtain ⟨l, hl⟩ := g; exact ⟨k * c + b * l, by grind⟩
theorem cg.neg (h : cg p a b) : cg p (-a) (-b) := by obtain ⟨k, hk⟩ := h; exact ⟨-k, by grind⟩
theorem cg.mod (p a : Int) : cg p (a % p) a := ⟨-(a / p), by have := Int.emod_add_mul_ediv a p; grind⟩
theorem cg.emod (h : cg p a b) : a % p = b % p := by
  obtain ⟨k, hk⟩ := h
  rw [show a = b + p * k by omega, Int.add_mul_emod_self_left]
theorem cg.of_emod (h : a % p = b % p) : cg p a b := (cg.mod p a).symm.trans ((cg.of_eq h).trans (cg.mod p b))
theorem cg_iff : cg p a b ↔ a % p = b % p := ⟨cg.emod, cg.of_emod⟩
theorem cg.zero_iff : cg p a 0 ↔ a % p = 0 := by rw [cg_iff, Int.zero_emod]
theorem cg.eq (h : cg p a b) (ha : 0 ≤ a ∧ a < p) (hb : 0 ≤ b ∧ b < p) : a = b := by
  have := h.emod
  rwa [Int.emod_eq_of_lt ha.1 ha.2, Int.emod_eq_of_lt hb.1 hb.2] at this
end
/-- the four moduli -/
abbrev Pm (p : Int) : Prop := p = 2 ∨ p = 3 ∨ p = 5 ∨ p = 7
theorem Pm.pos {p : Int} (h : Pm p) : 0 < p := by omega
theorem Pm.rng {p : Int} (h : Pm p) : 2 ≤ p ∧ p ≤ 7 := by omega
theorem mod_rng {p : Int} (h : 0 < p) (a : Int) : 0 ≤ a % p ∧ a % p < p := ⟨Int.emod_nonneg _ (by omega), Int.emod_lt_of_pos _ h⟩
theorem prime_mul {p x y : Int} (h : Pm p) (e : cg p (x * y) 0) : cg p x 0 ∨ cg p y 0 := by
  rw [cg.zero_iff] at e ⊢
  rw [cg.zero_iff]
  rw [Int.mul_emod] at e
  have hx := mod_rng h.pos x
  have hy := mod_rng h.pos y
  generalize x % p = r at *
  generalize y % p = s at *
  rcases h with rfl | rfl | rfl | rfl
  · have : r = 0 ∨ r = 1 := by omega
    rcases this with rfl | rfl <;> omega
  · have : r = 0 ∨ r = 1 ∨ r = 2 := by omega
    rcases this with rfl | rfl | rfl <;> omega
  · have : r = 0 ∨ r = 1 ∨ r = 2 ∨ r = 3 ∨ r = 4 := by omega
    rcases this with rfl | rfl | rfl | rfl | rfl <;> omega
  · have : r = 0 ∨ r = 1 ∨ r = 2 ∨ r = 3 ∨ r = 4 ∨ r = 5 ∨ r = 6 := by omega
    rcases this with rfl | rfl | rfl | rfl | rfl | rfl | rfl <;> omega
/-- an opposite by multiplying -/
def inv (p v : Int) : Int := if p = 2 then v % 2 else if p = 3 then v % 3 else if p = 5 then (v * v * v) % 5 else (v * v * v * v * v) % 7
theorem inv_mul {p v : Int} (h : Pm p) (hv : ¬ cg p v 0) : cg p (v * inv p v) 1 := by
  rw [cg.zero_iff] at hv
  rw [cg_iff, Int.mul_emod]
  have hx := mod_rng h.pos v
  have key : ∀ r, v % p = r → inv p v = inv p r := fun r hr => by
    subst hr
    unfold inv
    rcases h with rfl | rfl | rfl | rfl <;> simp [Int.mul_emod]
  generalize hr : v % p = r at *
  rw [key r rfl]
  rcases h with rfl | rfl | rfl | rfl
  · have : r = 1 := by omega
    subst this; rfl
  · have : r = 1 ∨ r = 2 := by omega
    rcases this with rfl | rfl <;> rfl
  · have : r = 1 ∨ r = 2 ∨ r = 3 ∨ r = 4 := by omega
    rcases this with rfl | rfl | rfl | rfl <;> rfl
  · have : r = 1 ∨ r = 2 ∨ r = 3 ∨ r = 4 ∨ r = 5 ∨ r = 6 := by omega
    rcases this with rfl | rfl | rfl | rfl | rfl | rfl <;> rfl
theorem inv_rng {p v : Int} (h : Pm p) : 0 ≤ inv p v ∧ inv p v < p := by
  unfold inv
  rcases h with rfl | rfl | rfl | rfl <;> simp <;> omega
/-! ### coefficients, series -/
def cf (a : List Int) (i : Nat) : Int := a.getD i 0
abbrev Ser := Nat → Int
def sh (f : Ser) : Ser
  | 0 => 0
  | i + 1 => f i
/-- a polynomial times a series -/
def lm : List Int → Ser → Ser
  | [], _ => fun _ => 0
  | x :: a, f => fun i => x * f i + sh (lm a f) i
@[simp] theorem cf_nil (i : Nat) : cf [] i = 0 := by simp [cf]
@[simp] theorem cf_zero (x : Int) (a : List Int) : cf (x :: a) 0 = x := rfl
@[simp] theorem cf_succ (x : Int) (a : List Int) (i : Nat) : cf (x :: a) (i + 1) = cf a i := rfl
theorem cf_ge {a : List Int} {i : Nat} (h : a.length ≤ i) : cf a i = 0 := by simp [cf, h]
theorem cf_lt {a : List Int} {i : Nat} (h : i < a.length) : cf a i = a[i] := by simp [cf, h]
theorem cf_mem {a : List Int} {i : Nat} (h : i < a.length) : cf a i ∈ a := by rw [cf_lt h]; exact List.getElem_mem h
theorem cf_ext {a b : List Int} (hl : a.length = b.length) (h : ∀ i, cf a i = cf b i) : a = b := by
  refine List.ext_getElem hl fun i h1 h2 => ?_
  have := h i
  rwa [cf_lt h1, cf_lt h2] at this
theorem cf_cons (x : Int) (a : List Int) (i : Nat) : cf (x :: a) i = (if i = 0 then x else 0) + sh (cf a) i := by
  cases i <;> simp [sh]
theorem sh_add (f g : Ser) (i : Nat) : sh (fun i => f i + g i) i = sh f i + sh g i := by cases i <;> simp [sh]
theorem sh_scl (c : Int) (f : Ser) (i : Nat) : sh (fun i => c * f i) i = c * sh f i := by cases i <;> simp [sh]
theorem sh_congr {f g : Ser} (h : ∀ i, f i = g i) (i : Nat) : sh f i = sh g i := by cases i <;> simp [sh, h]
theorem lm_congr {f g : Ser} (h : ∀ i, f i = g i) : ∀ (a : List Int) (i : Nat), lm a f i = lm a g i
  | [], _ => rfl
  | x :: a, i => by
    unfold lm
    rw [h, sh_congr (lm_congr h a)]
theorem lm_add (f g : Ser) : ∀ (a : List Int) (i : Nat), lm a (fun i => f i + g i) i = lm a f i + lm a g i
  | [], _ => by simp [lm]
  | x :: a, i => by
    unfold lm
    rw [sh_congr (lm_add f g a), sh_add]
    grind
theorem lm_scl (c : Int) (f : Ser) : ∀ (a : List Int) (i : Nat), lm a (fun i => c * f i) i = c * lm a f i
  | [], _ => by simp [lm]
  | x :: a, i => by
    unfold lm
    rw [sh_congr (lm_scl c f a), sh_scl]
    grind
theorem lm_sh (f : Ser) : ∀ (a : List Int) (i : Nat), lm a (sh f) i = sh (lm a f) i
  | [], i => by cases i <;> rfl
  | x :: a, i => by
    unfold lm
    rw [sh_congr (lm_sh f a)]
    cases i with
    | zero => simp [sh]
    | succ i => rfl
theorem lm_comm (f : Ser) : ∀ (a b : List Int) (i : Nat), lm a (lm b f) i = lm b (lm a f) i
  | [], b, i => by
    show 0 = lm b (fun _ => 0) i
    have := lm_scl 0 f b i
    simp only [Int.zero_mul] at this
    rw [this]
  | x :: a, b, i => by
    show x * lm b f i + sh (lm a (lm b f)) i = lm b (fun i => x * f i + sh (lm a f) i) i
    rw [lm_add, lm_scl, lm_sh, sh_congr (lm_comm f a b)]
theorem lm_one : ∀ (a : List Int) (i : Nat), lm a (cf [1]) i = cf a i
  | [], i => by simp [lm]
  | x :: a, i => by
    show x * cf [1] i + sh (lm a (cf [1])) i = _
    rw [sh_congr (lm_one a), cf_cons]
    cases i <;> simp [sh]
theorem lm_swap (a b : List Int) (i : Nat) : lm a (cf b) i = lm b (cf a) i := by
  rw [← lm_congr (lm_one b) a, lm_comm, lm_congr (lm_one a) b]
theorem lm_zero : ∀ (a : List Int) (i : Nat), lm a (fun _ => 0) i = 0
  | [], _ => rfl
  | x :: a, i => by
    unfold lm
    rw [sh_congr (lm_zero a)]
    cases i <;> simp [sh]
theorem lm_cg {p : Int} {f g : Ser} (h : ∀ i, cg p (f i) (g i)) : ∀ (a : List Int) (i : Nat), cg p (lm a f i) (lm a g i)
  | [], _ => cg.refl _ _
  | x :: a, i => by
    unfold lm
    refine ((cg.refl p x).mul (h i)).add ?_
    cases i with
    | zero => exact cg.refl _ _
    | succ i => exact lm_cg h a i
theorem lm_cgl {p : Int} {a b : List Int} (h : ∀ i, cg p (cf a i) (cf b i)) (c : List Int) (i : Nat) : cg p (lm a (cf c) i) (lm b (cf c) i) := by
  rw [lm_swap a, lm_swap b]
  exact lm_cg h c i
/-- products as lists -/
def addL : List Int → List Int → List Int
  | [], b => b
  | a, [] => a
  | x :: a, y :: b => (x + y) :: addL a b
theorem cf_addL : ∀ (a b : List Int) (i : Nat), cf (addL a b) i = cf a i + cf b i
  | [], b, i => by simp [addL]
  | x :: a, [], i => by simp [addL]
  | x :: a, y :: b, 0 => by simp [addL]
  | x :: a, y :: b, i + 1 => by simp [addL, cf_addL a b i]
def sclL (c : Int) (a : List Int) : List Int := a.map (c * ·)
theorem cf_sclL (c : Int) (a : List Int) (i : Nat) : cf (sclL c a) i = c * cf a i := by
  unfold cf sclL
  simp only [List.getD_eq_getElem?_getD, List.getElem?_map]
  cases a[i]? <;> simp
def mulL : List Int → List Int → List Int
  | [], _ => []
  | x :: a, b => addL (sclL x b) (0 :: mulL a b)
theorem cf_mulL : ∀ (a b : List Int) (i : Nat), cf (mulL a b) i = lm a (cf b) i
  | [], b, i => by simp [mulL, lm]
  | x :: a, b, i => by
    unfold mulL lm
    rw [cf_addL, cf_sclL, cf_cons, sh_congr (cf_mulL a b)]
    simp
theorem lm_mulL (a b c : List Int) (i : Nat) : lm (mulL a b) (cf c) i = lm a (lm b (cf c)) i := by
  rw [lm_swap, lm_congr (cf_mulL a b), lm_comm, lm_congr (lm_swap c b)]
theorem lm_addL (a b c : List Int) (i : Nat) : lm (addL a b) (cf c) i = lm a (cf c) i + lm b (cf c) i := by
  rw [lm_swap, lm_congr (cf_addL a b), lm_add, lm_swap c a, lm_swap c b]
theorem lm_sclL (k : Int) (a c : List Int) (i : Nat) : lm (sclL k a) (cf c) i = k * lm a (cf c) i := by
  rw [lm_swap, lm_congr (cf_sclL k a), lm_scl, lm_swap c a]
theorem lm_ge : ∀ (a b : List Int) (i : Nat), a.length + b.length ≤ i + 1 → lm a (cf b) i = 0
  | [], b, i, _ => rfl
  | x :: a, b, i, h => by
    unfold lm
    simp only [List.length_cons] at h
    rw [cf_ge (a := b) (i := i) (by omega)]
    cases i with
    | zero => simp [sh]
    | succ i =>
      simp only [sh]
      rw [lm_ge a b i (by omega)]
      simp
theorem lm_top : ∀ (a b : List Int), a ≠ [] → b ≠ [] → lm a (cf b) (a.length + b.length - 2) = cf a (a.length - 1) * cf b (b.length - 1)
  | [], _, h, _ => absurd rfl h
  | [x], b, _, hb => by
    have hl : 0 < b.length := List.length_pos_iff.mpr hb
    simp only [lm, List.length_cons, List.length_nil]
    rw [show 0 + 1 + b.length - 2 = b.length - 1 by omega]
    cases e : b.length - 1 <;> simp [sh]
  | x :: y :: a, b, _, hb => by
    have hl : 0 < b.length := List.length_pos_iff.mpr hb
    have ih := lm_top (y :: a) b (by simp) hb
    simp only [List.length_cons] at ih ⊢
    rw [show a.length + 1 + 1 + b.length - 2 = (a.length + 1 + b.length - 2) + 1 by omega]
    show x * cf b _ + lm (y :: a) (cf b) _ = _
    rw [ih, cf_ge (a := b) (i := a.length + 1 + b.length - 2 + 1) (by omega)]
    simp
end PP
set_option Elab.async false
set_option linter.all false
set_option maxRecDepth 100000
/-! PQ: trimmed polynomials, division, common divisors; plain -/
namespace PP
/-- the values without the noughts at the end -/
def trim : List Int → List Int
  | [] => []
  | x :: a => match trim a with
    | [] => if x = 0 then [] else [x]
    | t => x :: t
theorem trim_cons (x : Int) (a : List Int) : trim (x :: a) = if trim a = [] then (if x = 0 then [] else [x]) else x :: trim a := by
  cases h : trim a <;> simp [trim, h]
theorem cf_trim : ∀ (a : List Int) (i : Nat), cf (trim a) i = cf a i
  | [], _ => rfl
  | x :: a, i => by
    have ih := cf_trim a
    rw [trim_cons]
    split
    · rename_i h
      have h0 : ∀ j, cf a j = 0 := fun j => by rw [← ih j, h]; simp
      split
      · rename_i hx
        cases i <;> simp [hx, h0]
      · cases i <;> simp [h0]
    · cases i <;> simp [ih]
theorem trim_le : ∀ a : List Int, (trim a).length ≤ a.length
  | [] => Nat.le_refl _
  | x :: a => by
    have := trim_le a
    rw [trim_cons]
    split
    · split <;> simp
    · simp; exact this
theorem trim_pre : ∀ a : List Int, ∃ k, trim a = a.take k ∧ k ≤ a.length
  | [] => ⟨0, rfl, Nat.le_refl _⟩
  | x :: a => by
    obtain ⟨k, h, hk⟩ := trim_pre a
    rw [trim_cons]
    split
    · split
      · exact ⟨0, rfl, Nat.zero_le _⟩
      · exact ⟨1, rfl, by simp⟩
    · exact ⟨k + 1, by simp [h], by simp [hk]⟩
theorem trim_mem {a : List Int} {x : Int} (h : x ∈ trim a) : x ∈ a := by
  obtain ⟨k, e, _⟩ := trim_pre a
  rw [e] at h
  exact List.mem_of_mem_take h
theorem trim_last : ∀ a : List Int, trim a ≠ [] → cf (trim a) ((trim a).length - 1) ≠ 0
  | [], h => absurd rfl h
  | x :: a, h => by
    have ih := trim_last a
    rw [trim_cons] at h ⊢
    split
    · split
      · rename_i h1 h2; rw [if_pos h1, if_pos h2] at h; exact absurd rfl h
      · rename_i hx; simpa using hx
    · rename_i hn
      have := ih hn
      have hl : 0 < (trim a).length := List.length_pos_iff.mpr hn
      rw [List.length_cons, show (trim a).length + 1 - 1 = ((trim a).length - 1) + 1 by omega, cf_succ]
      exact this
/-- values of the modulus, the last one not 0 -/
structure Ok (p : Int) (a : List Int) : Prop where
  rng : ∀ x ∈ a, 0 ≤ x ∧ x < p
  top : a ≠ [] → cf a (a.length - 1) ≠ 0
theorem cf_rng {p : Int} {a : List Int} (hp : 0 < p) (h : ∀ x ∈ a, 0 ≤ x ∧ x < p) (i : Nat) : 0 ≤ cf a i ∧ cf a i < p := by
  by_cases hi : i < a.length
  · exact h _ (cf_mem hi)
  · rw [cf_ge (by omega)]; omega
theorem Ok.nil {p : Int} : Ok p [] := ⟨by simp, fun h => absurd rfl h⟩
theorem ok_trim {p : Int} {a : List Int} (h : ∀ x ∈ a, 0 ≤ x ∧ x < p) : Ok p (trim a) := ⟨fun x hx => h x (trim_mem hx), fun hn => trim_last a hn⟩
theorem Ok.top_ne {p : Int} {a : List Int} (h : Ok p a) (hp : 0 < p) (hn : a ≠ []) : ¬ cg p (cf a (a.length - 1)) 0 := fun z => by
  have := z.eq (cf_rng hp h.rng _) ⟨Int.le_refl _, hp⟩
  exact h.top hn this
/-- two that are alike modulo p are one -/
theorem Ok.eq {p : Int} {a b : List Int} (hp : 0 < p) (ha : Ok p a) (hb : Ok p b) (h : ∀ i, cg p (cf a i) (cf b i)) : a = b := by
  have he : ∀ i, cf a i = cf b i := fun i => (h i).eq (cf_rng hp ha.rng i) (cf_rng hp hb.rng i)
  refine cf_ext ?_ he
  rcases Nat.lt_trichotomy a.length b.length with hl | hl | hl
  · exfalso
    have hn : b ≠ [] := fun z => by rw [z] at hl; simp at hl
    exact hb.top hn (by rw [← he, cf_ge (by omega)])
  · exact hl
  · exfalso
    have hn : a ≠ [] := fun z => by rw [z] at hl; simp at hl
    exact ha.top hn (by rw [he, cf_ge (by omega)])
theorem Ok.nil_of {p : Int} {a : List Int} (hp : 0 < p) (ha : Ok p a) (h : ∀ i, cg p (cf a i) 0) : a = [] := Ok.eq hp ha .nil fun i => by rw [cf_nil]; exact h i
theorem Ok.len_le {p : Int} {a : List Int} {n : Nat} (hp : 0 < p) (ha : Ok p a) (h : ∀ i, n ≤ i → cg p (cf a i) 0) : a.length ≤ n := by
  refine Nat.le_of_not_lt fun hl => ?_
  have hn : a ≠ [] := fun z => by rw [z] at hl; simp at hl
  exact ha.top_ne hp hn (h _ (by omega))
/-- the values of a series up to a place -/
def can (p : Int) (n : Nat) (f : Ser) : List Int := trim ((List.range n).map fun i => f i % p)
theorem cf_map_range (f : Ser) (n i : Nat) : cf ((List.range n).map f) i = if i < n then f i else 0 := by
  by_cases h : i < n
  · rw [if_pos h, cf_lt (by simpa using h)]; simp
  · rw [if_neg h, cf_ge (by simp; omega)]
theorem ok_can {p : Int} (hp : 0 < p) (n : Nat) (f : Ser) : Ok p (can p n f) := ok_trim fun x hx => by
  obtain ⟨i, _, rfl⟩ := List.mem_map.mp hx
  exact mod_rng hp _
theorem can_le (p : Int) (n : Nat) (f : Ser) : (can p n f).length ≤ n := by
  have := trim_le ((List.range n).map fun i => f i % p)
  simpa [can] using this
theorem cf_can (p : Int) (n : Nat) (f : Ser) (i : Nat) : cf (can p n f) i = if i < n then f i % p else 0 := by
  unfold can
  rw [cf_trim, cf_map_range (fun i => f i % p)]
theorem can_cg {p : Int} {n : Nat} {f : Ser} (h : ∀ i, n ≤ i → cg p (f i) 0) (i : Nat) : cg p (cf (can p n f) i) (f i) := by
  rw [cf_can]
  split
  · exact cg.mod p _
  · exact (h i (by omega)).symm
theorem can_eq {p : Int} (hp : 0 < p) {n m : Nat} {f g : Ser} (hf : ∀ i, n ≤ i → cg p (f i) 0) (hg : ∀ i, m ≤ i → cg p (g i) 0) (h : ∀ i, cg p (f i) (g i)) : can p n f = can p m g :=
  Ok.eq hp (ok_can hp _ _) (ok_can hp _ _) fun i => (can_cg hf i).trans ((h i).trans (can_cg hg i).symm)
theorem can_id {p : Int} (hp : 0 < p) {a : List Int} (h : Ok p a) {n : Nat} (hn : a.length ≤ n) : can p n (cf a) = a :=
  Ok.eq hp (ok_can hp _ _) h fun i => can_cg (fun i hi => by rw [cf_ge (by omega)]; exact cg.refl _ _) i
/-- sum, product, multiple -/
def addP (p : Int) (a b : List Int) : List Int := can p (max a.length b.length) fun i => cf a i + cf b i
def mulP (p : Int) (a b : List Int) : List Int := can p (a.length + b.length) (lm a (cf b))
def sclP (p : Int) (a : List Int) (c : Int) : List Int := can p a.length fun i => cf a i * c
section
variable {p : Int} (hp : 0 < p) {a b c d g q r : List Int}
include hp
theorem ok_addP : Ok p (addP p a b) := ok_can hp _ _
theorem ok_mulP : Ok p (mulP p a b) := ok_can hp _ _
theorem ok_sclP {k : Int} : Ok p (sclP p a k) := ok_can hp _ _
omit hp in
theorem addP_cg (i : Nat) : cg p (cf (addP p a b) i) (cf a i + cf b i) := can_cg (fun i hi => by rw [cf_ge (a := a) (by omega), cf_ge (a := b) (by omega)]; exact cg.refl _ _) i
omit hp in
theorem mulP_cg (i : Nat) : cg p (cf (mulP p a b) i) (lm a (cf b) i) := can_cg (fun i hi => by rw [lm_ge a b i (by omega)]; exact cg.refl _ _) i
omit hp in
theorem sclP_cg {k : Int} (i : Nat) : cg p (cf (sclP p a k) i) (cf a i * k) := can_cg (fun i hi => by rw [cf_ge (a := a) (by omega)]; simp; exact cg.refl _ _) i
theorem addP_comm : addP p a b = addP p b a := Ok.eq hp (ok_addP hp) (ok_addP hp) fun i => (addP_cg i).trans (((cg.of_eq (Int.add_comm _ _))).trans (addP_cg i).symm)
theorem addP_assoc : addP p (addP p a b) c = addP p a (addP p b c) := Ok.eq hp (ok_addP hp) (ok_addP hp) fun i =>
  (addP_cg i).trans ((((addP_cg i).add (cg.refl _ _)).trans ((cg.of_eq (Int.add_assoc _ _ _)).trans ((cg.refl _ _).add (addP_cg i).symm))).trans (addP_cg i).symm)
theorem mulP_comm : mulP p a b = mulP p b a := Ok.eq hp (ok_mulP hp) (ok_mulP hp) fun i => (mulP_cg i).trans ((cg.of_eq (lm_swap a b i)).trans (mulP_cg i).symm)
theorem mulP_cgr (i : Nat) (c : List Int) : cg p (lm c (cf (mulP p a b)) i) (lm c (lm a (cf b)) i) := lm_cg (fun j => mulP_cg j) c i
theorem mulP_assoc : mulP p (mulP p a b) c = mulP p a (mulP p b c) := Ok.eq hp (ok_mulP hp) (ok_mulP hp) fun i => by
  refine (mulP_cg i).trans (cg.trans ?_ (mulP_cg i).symm)
  rw [lm_swap]
  refine (mulP_cgr hp i c).trans ((cg.of_eq ?_).trans (mulP_cgr hp i a).symm)
  rw [lm_comm, lm_congr (lm_swap c b)]
theorem mulP_add : mulP p a (addP p b c) = addP p (mulP p a b) (mulP p a c) := Ok.eq hp (ok_mulP hp) (ok_addP hp) fun i => by
  refine (mulP_cg i).trans (cg.trans ?_ (addP_cg i).symm)
  refine (lm_cg (fun j => addP_cg j) a i).trans ?_
  rw [lm_add]
  exact ((mulP_cg i).add (mulP_cg i)).symm
theorem add_mulP : mulP p (addP p a b) c = addP p (mulP p a c) (mulP p b c) := by
  rw [mulP_comm hp, mulP_add hp, mulP_comm hp (a := c), mulP_comm hp (a := c)]
omit hp in
theorem mulP_nil : mulP p [] a = [] := by
  unfold mulP
  have : can p (0 + a.length) (lm [] (cf a)) = [] := by
    unfold can
    simp only [lm, Int.zero_emod]
    generalize 0 + a.length = n
    have : ∀ l : List Nat, trim (l.map fun _ => (0 : Int)) = [] := fun l => by
      induction l with
      | nil => rfl
      | cons x l ih => rw [List.map_cons, trim_cons, if_pos ih, if_pos rfl]
    exact this _
  exact this
/-- lengths of products -/
theorem mulP_len (h : Pm p) (ha : Ok p a) (hb : Ok p b) (na : a ≠ []) (nb : b ≠ []) : (mulP p a b).length = a.length + b.length - 1 := by
  have la : 0 < a.length := List.length_pos_iff.mpr na
  have lb : 0 < b.length := List.length_pos_iff.mpr nb
  have h1 : (mulP p a b).length ≤ a.length + b.length - 1 := (ok_mulP hp).len_le hp fun i hi => (mulP_cg i).trans (cg.of_eq (lm_ge a b i (by omega)))
  refine Nat.le_antisymm h1 (Nat.le_of_not_lt fun hl => ?_)
  have h2 : cg p (cf (mulP p a b) (a.length + b.length - 2)) 0 := by rw [cf_ge (by omega)]; exact cg.refl _ _
  have h3 := (mulP_cg (a.length + b.length - 2)).symm.trans h2
  rw [lm_top a b na nb] at h3
  rcases prime_mul h h3 with h4 | h4
  · exact ha.top_ne hp na h4
  · exact hb.top_ne hp nb h4
/-- a product that is short has a nought factor -/
theorem lm_short (h : Pm p) (ha : Ok p a) (nd : d ≠ []) (hd : ¬ cg p (cf d (d.length - 1)) 0) (hs : ∀ i, d.length ≤ i + 1 → cg p (lm a (cf d) i) 0) : a = [] := by
  by_cases na : a = []
  · exact na
  · exfalso
    have la : 0 < a.length := List.length_pos_iff.mpr na
    have h3 := hs (a.length + d.length - 2) (by omega)
    rw [lm_top a d na nd] at h3
    rcases prime_mul h h3 with h4 | h4
    · exact ha.top_ne hp na h4
    · exact hd h4
/-- division: quotient and rest are the only ones -/
structure Dv (p : Int) (a d q r : List Int) : Prop where
  okq : Ok p q
  okr : Ok p r
  len : r.length < d.length
  eq : ∀ i, cg p (cf a i) (lm q (cf d) i + cf r i)
theorem Dv.uniq (h : Pm p) {q' r' : List Int} (nd : d ≠ []) (hd : ¬ cg p (cf d (d.length - 1)) 0) (x : Dv p a d q r) (y : Dv p a d q' r') : q = q' ∧ r = r' := by
  have hz : can p (max q.length q'.length) (fun i => cf q i + -1 * cf q' i) = [] := by
    refine lm_short hp h (ok_can hp _ _) nd hd fun i hi => ?_
    have e1 : cg p (lm (can p (max q.length q'.length) (fun i => cf q i + -1 * cf q' i)) (cf d) i) (lm q (cf d) i - lm q' (cf d) i) := by
      rw [lm_swap]
      refine (lm_cg (fun j => can_cg (fun k hk => by rw [cf_ge (a := q) (by omega), cf_ge (a := q') (by omega)]; exact cg.refl _ _) j) d i).trans (cg.of_eq ?_)
      rw [lm_add, lm_scl, lm_swap d q, lm_swap d q']
      omega
    refine e1.trans ?_
    have e2 := (x.eq i).symm.trans (y.eq i)
    have lr := x.len
    have lr' := y.len
    rw [cf_ge (a := r) (by omega), cf_ge (a := r') (by omega)] at e2
    have e3 := e2.sub (cg.refl p (lm q' (cf d) i))
    refine (cg.of_eq (by omega)).trans (e3.trans (cg.of_eq (by omega)))
  have hq : q = q' := Ok.eq hp x.okq y.okq fun i => by
    have e := can_cg (p := p) (n := max q.length q'.length) (f := fun i => cf q i + -1 * cf q' i) (fun k hk => by rw [cf_ge (a := q) (by omega), cf_ge (a := q') (by omega)]; exact cg.refl _ _) i
    rw [hz, cf_nil] at e
    have e2 := e.symm.add (cg.refl p (cf q' i))
    exact (cg.of_eq (by omega)).trans (e2.trans (cg.of_eq (by omega)))
  refine ⟨hq, Ok.eq hp x.okr y.okr fun i => ?_⟩
  subst hq
  have e := ((x.eq i).symm.trans (y.eq i)).sub (cg.refl p (lm q (cf d) i))
  exact (cg.of_eq (by omega)).trans (e.trans (cg.of_eq (by omega)))
end
/-! ### common divisors -/
def Dvd (p : Int) (g a : List Int) : Prop := ∃ q : List Int, ∀ i, cg p (cf a i) (lm q (cf g) i)
theorem Dvd.refl {p : Int} {a : List Int} : Dvd p a a := ⟨[1], fun i => by rw [lm_swap, lm_one]; exact cg.refl _ _⟩
theorem Dvd.trans {p : Int} {a b c : List Int} (h : Dvd p a b) (k : Dvd p b c) : Dvd p a c := by
  obtain ⟨q, hq⟩ := h
  obtain ⟨s, hs⟩ := k
  refine ⟨mulL s q, fun i => (hs i).trans ?_⟩
  rw [lm_mulL]
  exact lm_cg hq s i
theorem Dvd.add {p : Int} {g a b c : List Int} (h : Dvd p g a) (k : Dvd p g b) (e : ∀ i, cg p (cf c i) (cf a i + cf b i)) : Dvd p g c := by
  obtain ⟨q, hq⟩ := h
  obtain ⟨s, hs⟩ := k
  refine ⟨addL q s, fun i => ?_⟩
  rw [lm_addL]
  exact (e i).trans ((hq i).add (hs i))
theorem Dvd.mul {p : Int} {g a c : List Int} (h : Dvd p g a) (s : List Int) (e : ∀ i, cg p (cf c i) (lm s (cf a) i)) : Dvd p g c := Dvd.trans h ⟨s, e⟩
theorem Dvd.nil {p : Int} {g : List Int} : Dvd p g [] := ⟨[], fun i => by simp [lm]; exact cg.refl _ _⟩
theorem Dvd.cg {p : Int} {g a b : List Int} (h : Dvd p g a) (e : ∀ i, PP.cg p (cf a i) (cf b i)) : Dvd p g b := by
  obtain ⟨q, hq⟩ := h
  exact ⟨q, fun i => (e i).symm.trans (hq i)⟩
theorem Dvd.cgl {p : Int} {g g' a : List Int} (h : Dvd p g a) (e : ∀ i, PP.cg p (cf g i) (cf g' i)) : Dvd p g' a := by
  obtain ⟨q, hq⟩ := h
  exact ⟨q, fun i => (hq i).trans (lm_cg e q i)⟩
/-- monic, or nought -/
def Mon (p : Int) (a : List Int) : Prop := Ok p a ∧ (a ≠ [] → cf a (a.length - 1) = 1)
structure IsG (p : Int) (a b g : List Int) : Prop where
  mon : Mon p g
  l : Dvd p g a
  r : Dvd p g b
  most : ∀ c, Dvd p c a → Dvd p c b → Dvd p c g
theorem Dvd.canq {p : Int} (hp : 0 < p) {g a : List Int} (h : Dvd p g a) : ∃ q, Ok p q ∧ ∀ i, PP.cg p (cf a i) (lm q (cf g) i) := by
  obtain ⟨q, hq⟩ := h
  refine ⟨can p q.length (cf q), ok_can hp _ _, fun i => (hq i).trans ?_⟩
  exact (lm_cgl (fun j => can_cg (fun k hk => by rw [cf_ge hk]; exact cg.refl _ _) j) g i).symm
theorem dvd_mon_eq {p : Int} (h : Pm p) {g k : List Int} (hg : Mon p g) (hk : Mon p k) (h1 : Dvd p g k) (h2 : Dvd p k g) : g = k := by
  have hp := h.pos
  by_cases ng : g = []
  · subst ng
    obtain ⟨q, hq⟩ := h1
    refine (hk.1.nil_of hp fun i => (hq i).trans (cg.of_eq ?_)).symm
    rw [lm_swap]
    rfl
  by_cases nk : k = []
  · subst nk
    obtain ⟨q, hq⟩ := h2
    refine (hg.1.nil_of hp fun i => (hq i).trans (cg.of_eq ?_))
    rw [lm_swap]
    rfl
  have lg : 0 < g.length := List.length_pos_iff.mpr ng
  have lk : 0 < k.length := List.length_pos_iff.mpr nk
  obtain ⟨q, oq, hq⟩ := h1.canq hp
  obtain ⟨s, os, hs⟩ := h2.canq hp
  have eq1 : k = mulP p q g := Ok.eq hp hk.1 (ok_mulP hp) fun i => (hq i).trans (mulP_cg i).symm
  have eq2 : g = mulP p s k := Ok.eq hp hg.1 (ok_mulP hp) fun i => (hs i).trans (mulP_cg i).symm
  have nq : q ≠ [] := fun z => nk (by rw [eq1, z, mulP_nil])
  have ns : s ≠ [] := fun z => ng (by rw [eq2, z, mulP_nil])
  have l1 := mulP_len hp h oq hg.1 nq ng
  have l2 := mulP_len hp h os hk.1 ns nk
  rw [← eq1] at l1
  rw [← eq2] at l2
  have lq : 0 < q.length := List.length_pos_iff.mpr nq
  have ls : 0 < s.length := List.length_pos_iff.mpr ns
  match q, nq, lq, l1, hq with
  | [x], _, _, l1, hq =>
    have ll : k.length = g.length := by simp at l1; omega
    have top := hq (g.length - 1)
    rw [← ll, hk.2 nk, ll] at top
    have e1 : lm [x] (cf g) (g.length - 1) = x * cf g (g.length - 1) := by
      unfold lm
      simp only [lm]
      cases g.length - 1 <;> simp [sh]
    rw [e1, hg.2 ng, Int.mul_one] at top
    refine Ok.eq hp hg.1 hk.1 fun i => ((hq i).trans ?_).symm
    have e2 : lm [x] (cf g) i = x * cf g i := by
      unfold lm
      simp only [lm]
      cases i <;> simp [sh]
    rw [e2]
    exact ((top.symm).mul (cg.refl p (cf g i))).trans (cg.of_eq (Int.one_mul _))
  | x :: y :: q', _, _, l1, _ => simp at l1; omega
theorem IsG.uniq {p : Int} (h : Pm p) {a b g k : List Int} (x : IsG p a b g) (y : IsG p a b k) : g = k := dvd_mon_eq h x.mon y.mon (y.most g x.l x.r) (x.most k y.l y.r)
theorem IsG.symm {p : Int} {a b g : List Int} (x : IsG p a b g) : IsG p b a g := ⟨x.mon, x.r, x.l, fun c h1 h2 => x.most c h2 h1⟩
/-- one step of Euclid's -/
theorem IsG.step {p : Int} {a b q r g : List Int} (e : ∀ i, cg p (cf a i) (lm q (cf b) i + cf r i)) (x : IsG p b r g) : IsG p a b g := by
  have back : ∀ c, Dvd p c a → Dvd p c b → Dvd p c r := fun c h1 h2 => by
    have h3 : Dvd p c (sclL (-1) (mulL q b)) := h2.mul (sclL (-1) q) fun i => by
      rw [cf_sclL, cf_mulL, lm_sclL]
      exact cg.refl _ _
    refine h1.add h3 fun i => ?_
    rw [cf_sclL, cf_mulL]
    have := (e i).add (cg.refl p (-1 * lm q (cf b) i))
    exact ((this).trans (cg.of_eq (by omega))).symm
  refine ⟨x.mon, ?_, x.l, fun c h1 h2 => x.most c h2 (back c h1 h2)⟩
  have h3 : Dvd p g (mulL q b) := x.l.mul q fun i => by rw [cf_mulL]; exact cg.refl _ _
  exact h3.add x.r fun i => by rw [cf_mulL]; exact e i
end PP
set_option Elab.async false
set_option linter.all false
set_option maxRecDepth 100000
set_option maxHeartbeats 4000000
/-! PE0: tools for plain meanings: loops, places of lists of numbers -/
namespace SR
open PySem PySem.Spec PyProof.Rows L2 DL LamX PP
section
variable {S S1 : Sto} {d : D} {p : Int} {n i j k : Nat} {e : En} {ds : List D} {ma mb : M D} {ml : M (List D)} {m1 m2 : MS}
@[simp] theorem ev_parM {mm : M (List Slot)} : mParM i j mm e S = (mm e S).bndS e fun ds S1 => match ds with | [a, b] => if i < e.length ∧ j < e.length then .nx ((e.set i a).set j b) S1 else .stuck | _ => .stuck := rfl
@[simp] theorem ev_parM3 {mm : M (List Slot)} : mParM3 i j k mm e S = (mm e S).bndS e fun ds S1 => match ds with | [a, b, c] => if i < e.length ∧ j < e.length ∧ k < e.length then .nx (((e.set i a).set j b).set k c) S1 else .stuck | _ => .stuck := rfl
@[simp] theorem ev_mnil : mMNil e S = .ok [] S := rfl
@[simp] theorem ev_mval {mr : M (List Slot)} : mMVal ma mr e S = (ma e S).bnd fun a S1 => (mr e S1).bnd fun r S2 => .ok (.val a :: r) S2 := rfl
@[simp] theorem ev_mown {mr : M (List Slot)} : mMOwn ml mr e S = (ml e S).bnd fun a S1 => (mr e S1).bnd fun r S2 => .ok (.own a :: r) S2 := rfl
@[simp] theorem ev_rg1 : mNewRg1 ma e S = (ma e S).bnd fun d S1 => oR (rng2 S1 [.int 0, d]) S1 := rfl
@[simp] theorem ev_rg2 : mNewRg2 ma mb e S = (ma e S).bnd fun d S1 => (mb e S1).bnd fun d2 S2 => oR (rng2 S2 [d, d2]) S2 := rfl
@[simp] theorem ev_rev : mNewRev ma e S = (ma e S).bnd fun d S1 => oR ((lsOf S1 d).map List.reverse) S1 := rfl
@[simp] theorem ev_star : mStar ma ml e S = (ma e S).bnd fun a S1 => (oR (itemsL a) S1).bnd fun xs S2 => (ml e S2).bnd fun r S3 => .ok (xs ++ r) S3 := rfl
@[simp] theorem ev_rng3 : mRng3 ml e S = (ml e S).bnd fun ds S1 => oR (rng3 S1 ds) S1 := rfl
@[simp] theorem ev_freeze : mFreeze i e S = match e[i]? with | some (.own ds) => .nx (e.set i (.val (.lst ds))) S | _ => .stuck := rfl
@[simp] theorem ev_popOwn : mPopOwn k e S = match e[k]? with | some (.own ds) => if ds.length = 0 then .stuck else .nx (e.set k (.own ds.dropLast)) S | _ => .stuck := rfl
@[simp] theorem it_tup2 {ds : List D} : itemsL (.tup ds) = some ds := rfl
@[simp] theorem it_lst2 {ds : List D} : itemsL (.lst ds) = some ds := rfl
@[simp] theorem ita_tup {ds : List D} : itemsAny S (.tup ds) = some ds := rfl
@[simp] theorem ita_lst {ds : List D} : itemsAny S (.lst ds) = some ds := rfl
@[simp] theorem neg_int {i : Int} : dNeg S (.int i) = some (.int (-i)) := rfl
@[simp] theorem en_tup {ds : List D} : enumOf S [.tup ds] = some (enumL ds) := rfl
@[simp] theorem en_lst {ds : List D} : enumOf S [.lst ds] = some (enumL ds) := rfl
@[simp] theorem max_int {i j : Int} : d2I (fun i j => if j > i then j else i) S [.int i, .int j] = some (.int (if j > i then j else i)) := rfl
@[simp] theorem min_int {i j : Int} : d2I (fun i j => if j < i then j else i) S [.int i, .int j] = some (.int (if j < i then j else i)) := rfl
@[simp high] theorem max_nat {i j : Nat} : d2I (fun i j => if j > i then j else i) S [.int (i : Int), .int (j : Int)] = some (.int ((max i j : Nat) : Int)) := by
  rw [max_int]
  congr 2
  split <;> omega
@[simp high] theorem min_nat {i j : Nat} : d2I (fun i j => if j < i then j else i) S [.int (i : Int), .int (j : Int)] = some (.int ((min i j : Nat) : Int)) := by
  rw [min_int]
  congr 2
  split <;> omega
theorem rng1_natz {j : Nat} (hj : j ≤ 1000) : rng1 S [.int (j : Int)] = some ((List.range j).map fun k : Nat => D.int (k : Int)) := by rw [rng1_nat hj]; simp
/-- a place of a list, a tuple of numbers -/
theorem ix_lst {l : List Int} (h : k < l.length) : dIx S (.lst (l.map .int)) (.int (k : Int)) = some (.int (cf l k)) := by
  show atI (l.map D.int) (k : Int) = _
  rw [DL.atI_nat (by simpa using h), cf_lt h]
  simp
theorem ix_tup {l : List Int} (h : k < l.length) : dIx S (tI l) (.int (k : Int)) = some (.int (cf l k)) := by
  rw [dIx_tI h, cf_lt h]
theorem ix_lstI {l : List Int} {i : Int} (h0 : 0 ≤ i) (h : i < l.length) : dIx S (.lst (l.map .int)) (.int i) = some (.int (cf l i.toNat)) := by
  obtain ⟨k, rfl⟩ := Int.eq_ofNat_of_zero_le h0
  exact ix_lst (by omega)
theorem ix_tupI {l : List Int} {i : Int} (h0 : 0 ≤ i) (h : i < l.length) : dIx S (tI l) (.int i) = some (.int (cf l i.toNat)) := by
  obtain ⟨k, rfl⟩ := Int.eq_ofNat_of_zero_le h0
  exact ix_tup (by omega)
theorem atI_neg1 {α : Type} {xs : List α} {x : α} (h : xs[xs.length - 1]? = some x) : atI xs (-1) = some x := by
  have hl : 0 < xs.length := by
    rcases Nat.eq_zero_or_pos xs.length with h0 | h0
    · rw [List.length_eq_zero_iff.mp h0] at h; cases h
    · exact h0
  unfold atI ixN
  rw [if_neg (by omega), if_pos (by omega), show (-1 + (xs.length : Int)).toNat = xs.length - 1 by omega]
  exact h
theorem last_get {l : List Int} (h : l ≠ []) : (l.map D.int)[(l.map D.int).length - 1]? = some (.int (cf l (l.length - 1))) := by
  have hl : 0 < l.length := List.length_pos_iff.mpr h
  rw [List.length_map, List.getElem?_map, List.getElem?_eq_getElem (by omega), cf_lt (by omega)]
  rfl
theorem ix_tup_last {l : List Int} (h : l ≠ []) : dIx S (tI l) (.int (-1)) = some (.int (cf l (l.length - 1))) := atI_neg1 (last_get h)
theorem ix_lst_last {l : List Int} (h : l ≠ []) : dIx S (.lst (l.map .int)) (.int (-1)) = some (.int (cf l (l.length - 1))) := atI_neg1 (last_get h)
theorem cf_set {l : List Int} {v : Int} (h : k < l.length) (i : Nat) : cf (l.set k v) i = if i = k then v else cf l i := by
  unfold cf
  simp only [List.getD_eq_getElem?_getD]
  by_cases hi : i = k
  · subst hi
    rw [if_pos rfl, List.getElem?_set_self h]
    rfl
  · rw [if_neg hi, List.getElem?_set_ne (fun z => hi z.symm)]
theorem mem_set {l : List Int} {v : Int} {P : Int → Prop} (hv : P v) (h : ∀ x ∈ l, P x) : ∀ x ∈ l.set k v, P x := fun x hx => by
  rcases List.mem_or_eq_of_mem_set hx with hx | rfl
  · exact h x hx
  · exact hv
/-- a value goes into a place -/
theorem sub_own {o : Nat} {l : List Int} {v : Int} {mi : M D} (he : e[o]? = some (.own (l.map .int))) (hi : mi e S = .ok (.int (k : Int)) S) (h : k < l.length) : mgSubOwn o mi (.int v) e S = .nx (e.set o (.own ((l.set k v).map .int))) S := by
  unfold mgSubOwn
  rw [he]
  simp only [hi, ev_sk]
  have h1 : ixN (l.map D.int).length (k : Int) = some k := by
    rw [ixN_lt (by omega) (by simpa using h)]
    simp
  rw [h1]
  simp [List.map_set]
/-- loops -/
theorem loop_sto {body : D → MS} {J : Nat → En → Prop} (ds : List D) (e : En) (S : Sto) (h : J 0 e) (hb : ∀ i d, ds[i]? = some d → ∀ e, J i e → ∃ e', body d e S = .nx e' S ∧ J (i + 1) e') :
    ∃ e', loopS body ds e S = .nx e' S ∧ J ds.length e' := by
  obtain ⟨e', S', h1, h2, h3⟩ := loop_gen (J := fun k e S' => S' = S ∧ J k e) ds 0 e S ⟨rfl, h⟩ fun i d hd e S' ⟨hS, hj⟩ => by
    subst hS
    rw [Nat.zero_add] at hj ⊢
    obtain ⟨e', q1, q2⟩ := hb i d hd e hj
    exact ⟨e', S', q1, rfl, q2⟩
  subst h2
  exact ⟨e', h1, by simpa using h3⟩
theorem loop_of {body : D → MS} {ds : List D} {e : En} {S : Sto} {r : RS} (hr : loopS body ds e S = r) (J : Nat → En → Prop) (h : J 0 e) (hb : ∀ i d, ds[i]? = some d → ∀ e, J i e → ∀ r, body d e S = r → ∃ e', r = .nx e' S ∧ J (i + 1) e') :
    ∃ e', r = .nx e' S ∧ J ds.length e' := by
  obtain ⟨e', h1, h2⟩ := loop_sto ds e S h fun i d hd e hj => hb i d hd e hj _ rfl
  exact ⟨e', hr.symm.trans h1, h2⟩
theorem loop_ofS {body : D → MS} {ds : List D} {e : En} {S : Sto} {r : RS} (hr : loopS body ds e S = r) (J : Nat → En → Sto → Prop) (h : J 0 e S) (hb : ∀ i d, ds[i]? = some d → ∀ e S, J i e S → ∀ r, body d e S = r → ∃ e' S', r = .nx e' S' ∧ J (i + 1) e' S') :
    ∃ e' S', r = .nx e' S' ∧ J ds.length e' S' := by
  obtain ⟨e', S', h1, h2⟩ := loop_gen (J := J) ds 0 e S h fun i d hd e S hj => by
    rw [Nat.zero_add] at hj ⊢
    exact hb i d hd e S hj _ rfl
  exact ⟨e', S', hr.symm.trans h1, by simpa using h2⟩
theorem while_gen {mc : M Bool} {mb : MS} {J : Nat → En → Sto → Prop} {Dn : En → Sto → Prop} (h : ∀ m e S, J m e S → (mc e S = .ok false S ∧ Dn e S) ∨ (mc e S = .ok true S ∧ ∃ m' e' S', m' < m ∧ mb e S = .nx e' S' ∧ J m' e' S')) :
    ∀ (n m : Nat) (e : En) (S : Sto), m < n → J m e S → ∃ e' S', whileS mc mb n e S = .nx e' S' ∧ Dn e' S'
  | 0, m, _, _, hm, _ => by omega
  | n + 1, m, e, S, hm, hj => by
    rcases h m e S hj with ⟨h1, h2⟩ | ⟨h1, m', e', S', h2, h3, h4⟩
    · exact ⟨e, S, by simp [whileS, h1], h2⟩
    · obtain ⟨e2, S2, h5, h6⟩ := while_gen h n m' e' S' (by omega) h4
      exact ⟨e2, S2, by simp [whileS, h1, h3, h5], h6⟩
theorem while_of {mc : M Bool} {mb : MS} {n : Nat} {e : En} {S : Sto} {r : RS} (hr : whileS mc mb n e S = r) (m : Nat) (J : Nat → En → Prop) (Dn : En → Prop) (hm : m < n) (h0 : J m e)
    (h : ∀ m e, J m e → (mc e S = .ok false S ∧ Dn e) ∨ (mc e S = .ok true S ∧ ∃ m' e', m' < m ∧ mb e S = .nx e' S ∧ J m' e')) : ∃ e', r = .nx e' S ∧ Dn e' := by
  obtain ⟨e', S', h1, h2, h3⟩ := while_gen (J := fun m e S' => S' = S ∧ J m e) (Dn := fun e S' => S' = S ∧ Dn e) (fun m e S' ⟨hS, hj⟩ => by
    subst hS
    rcases h m e hj with ⟨h1, h2⟩ | ⟨h1, m', e', h2, h3, h4⟩
    · exact .inl ⟨h1, rfl, h2⟩
    · exact .inr ⟨h1, m', e', S', h2, h3, rfl, h4⟩) n m e S hm ⟨rfl, h0⟩
  subst h2
  exact ⟨e', hr.symm.trans h1, h3⟩
theorem enum_get {l : List Int} {d : D} (h : (enumL (l.map D.int))[i]? = some d) : i < l.length ∧ d = .tup [.int (i : Nat), .int (cf l i)] := by
  unfold enumL at h
  rw [List.getElem?_mapIdx, List.getElem?_map] at h
  cases hl : l[i]? with
  | none => rw [hl] at h; cases h
  | some x =>
    rw [hl] at h
    have hi := (List.getElem?_eq_some_iff.mp hl).1
    refine ⟨hi, ?_⟩
    rw [cf_lt hi]
    simp only [Option.map_some, Option.some.injEq] at h
    rw [← h, (List.getElem?_eq_some_iff.mp hl).2]
theorem rng_get {f : Nat → D} {d : D} (h : ((List.range n).map f)[i]? = some d) : i < n ∧ d = f i := by
  rw [List.getElem?_map] at h
  by_cases hi : i < n
  · rw [List.getElem?_range hi] at h
    exact ⟨hi, by simpa using h.symm⟩
  · rw [List.getElem?_eq_none (by simp; omega)] at h
    cases h
theorem rev_get {f : Nat → D} {d : D} (h : ((List.range n).map f).reverse[j]? = some d) : j < n ∧ d = f (n - 1 - j) := by
  have hj : j < n := by
    have := (List.getElem?_eq_some_iff.mp h).1
    simpa using this
  refine ⟨hj, ?_⟩
  rw [List.getElem?_reverse (by simpa using hj)] at h
  have := rng_get h
  simpa using this.2
theorem lc_range {m : Nat} {v : Nat} {me : M D} {S : Sto} (g : Nat → Int) (h : ∀ k, k < m → ∀ S, me (e.set v (.val (.int (k : Int)))) S = .ok (.int (g k)) S) (hm : m ≤ 99999) :
    lcL (lcBody [v] (mgName v) (mC true) me e) ((List.range m).map fun k : Nat => D.int (k : Int)) S [] = .ok (((List.range m).map g).map D.int) S := by
  rw [lc_map (f := fun k => some (D.int (g k)))]
  · simp [List.filterMap_eq_map']
  · simp; omega
  · intro k hk S
    have hk := List.mem_range.mp hk
    have h2 := h k hk S
    simp [List.set_set, h2]
theorem lc_list {a : List Int} {v : Nat} {me : M D} {S : Sto} (g : Int → Int) (h : ∀ x ∈ a, ∀ S, me (e.set v (.val (.int x))) S = .ok (.int (g x)) S) (hm : a.length ≤ 99999) :
    lcL (lcBody [v] (mgName v) (mC true) me e) (a.map D.int) S [] = .ok ((a.map g).map D.int) S := by
  rw [lc_map (f := fun k => some (D.int (g k)))]
  · simp [List.filterMap_eq_map']
  · simp; omega
  · intro k hk S
    have h2 := h k hk S
    simp [List.set_set, h2]
theorem enum_len {l : List Int} : (enumL (l.map D.int)).length = l.length := by simp [enumL]
theorem zeros_map {m : Nat} : (List.range m).map (fun _ => (0 : Int)) = List.replicate m 0 := by simp [List.map_const']
theorem cf_zeros {m i : Nat} : cf (List.replicate m 0) i = 0 := by
  by_cases h : i < m
  · rw [cf_lt (by simpa using h)]; simp
  · exact cf_ge (by simp; omega)
theorem rep_mul {x : D} {j : Nat} (h : j ≤ 1000) : (List.replicate (j : Int).toNat [x]).flatten = List.replicate j x := by rw [Int.toNat_natCast, flat_rep]
end
/-! ### more on series -/
theorem lm_take (f : Ser) : ∀ (a : List Int) (k i : Nat), lm (a.take (k + 1)) f i = lm (a.take k) f i + if k ≤ i then cf a k * f (i - k) else 0
  | [], k, i => by simp [lm]
  | x :: a, 0, i => by
    simp only [List.take_succ_cons, List.take_zero, lm]
    cases i <;> simp [sh]
  | x :: a, k + 1, i => by
    simp only [List.take_succ_cons, lm]
    cases i with
    | zero => simp [sh]
    | succ i =>
      simp only [sh, cf_succ]
      rw [lm_take f a k i]
      simp only [Nat.add_le_add_iff_right, Nat.add_sub_add_right]
      omega
end SR
set_option Elab.async false
set_option linter.all false
set_option maxRecDepth 100000
set_option maxHeartbeats 4000000
/-! PC1: trimmed -/
namespace SR
open PySem PySem.Spec PyProof.Rows L2 DL LamX PP
section
variable {S : Sto} {d : D} {p : Int} {n : Nat} {e : En}
theorem trim_take {l : List Int} {m : Nat} (hm : m ≤ l.length) (h0 : ∀ i, m ≤ i → cf l i = 0) (h1 : 0 < m → cf l (m - 1) ≠ 0) : l.take m = trim l := by
  have key : ∀ (a b : List Int), (∀ i, cf a i = cf b i) → (a ≠ [] → cf a (a.length - 1) ≠ 0) → (b ≠ [] → cf b (b.length - 1) ≠ 0) → a = b := fun a b h ha hb => by
    refine cf_ext ?_ h
    rcases Nat.lt_trichotomy a.length b.length with hl | hl | hl
    · exact absurd (by rw [← h, cf_ge (by omega)]) (hb (fun z => by rw [z] at hl; simp at hl))
    · exact hl
    · exact absurd (by rw [h, cf_ge (by omega)]) (ha (fun z => by rw [z] at hl; simp at hl))
  have ct : ∀ i, cf (l.take m) i = cf l i := fun i => by
    by_cases hi : i < m
    · rw [cf_lt (by simp; omega), cf_lt (by omega)]; simp
    · rw [cf_ge (by simp; omega), h0 i (by omega)]
  refine key _ _ (fun i => by rw [ct, cf_trim]) (fun hn => ?_) (trim_last l)
  have hl : (l.take m).length = m := by simp; omega
  have : 0 < m := by rw [← hl]; exact List.length_pos_iff.mpr hn
  rw [hl, ct]
  exact h1 this
theorem trimmed_l {l : List Int} {x : D} (hx : ∀ S i, dIx S x (.int i) = dIx S (.lst (l.map .int)) (.int i)) (hn : ∀ S, dLen S [x] = some (.int l.length)) (hs : ∀ S (m : Nat), ∃ y, dSl S x none (some (m : Int)) = some y ∧ dTuple S [y] = some (tI (l.take m))) (h : l.length ≤ 99999) : f_trimmed [x] S = .ok (tI (trim l)) S := by
  unfold f_trimmed t_trimmed
  obtain ⟨e', S', h1, h2⟩ := while_gen (mc := (mAndT (mTest (mOp (dCmp fun i j => decide (j < i)) (mVar 1) (mC (.int 0)))) (mTest (mOp dEq (mOp dIx (mVar 0) (mOp dSub (mVar 1) (mC (.int 1)))) (mC (.int 0))))))
    (mb := (mSet 1 (mOp dSub (mVar 1) (mC (.int 1)))))
    (J := fun m e S1 => S1 = S ∧ e = [.val x, .val (.int (m : Nat))] ∧ m ≤ l.length ∧ ∀ i, m ≤ i → cf l i = 0)
    (Dn := fun e S1 => S1 = S ∧ ∃ m : Nat, e = [.val x, .val (.int m)] ∧ m ≤ l.length ∧ (∀ i, m ≤ i → cf l i = 0) ∧ (0 < m → cf l (m - 1) ≠ 0))
    (fun m e S1 ⟨hS, he, hm, h0⟩ => by
      subst hS he
      by_cases hz : m = 0
      · left
        subst hz
        exact ⟨by simp, rfl, 0, rfl, by omega, h0, fun z => by omega⟩
      · have ei : dIx S1 x (.int ((m : Int) - 1)) = some (.int (cf l (m - 1))) := by
          rw [hx, show (m : Int) - 1 = ((m - 1 : Nat) : Int) by omega]
          exact ix_lst (by omega)
        have hp : (0 : Int) < m := by omega
        by_cases hc : cf l (m - 1) = 0
        · right
          refine ⟨by simp [ei, hc, hp, hz], m - 1, _, _, by omega, rfl, rfl, by simp; omega, by omega, fun i hi => ?_⟩
          by_cases hi2 : i = m - 1
          · rw [hi2]; exact hc
          · exact h0 i (by omega)
        · left
          exact ⟨by simp [ei, hc, hp, hz], rfl, m, rfl, hm, h0, fun _ => hc⟩) 100000 l.length [.val x, .val (.int (l.length : Nat))] S (by omega) ⟨rfl, rfl, Nat.le_refl _, fun i hi => cf_ge hi⟩
  obtain ⟨rfl, m, rfl, hm, h3, h4⟩ := h2
  obtain ⟨y, hy, hy2⟩ := hs S' m
  simp only [ev_run, ev_seq, ev_set, ev_cb, ev_cons, ev_nil, ev_var, se1, List.replicate, List.getElem?_cons_zero, ev_bk, hn, ev_some, ev_sk, List.set_cons_zero, List.set_cons_succ, h1]
  simp [hy, hy2, trim_take hm h3 h4]
theorem trimmed_lst {l : List Int} (h : l.length ≤ 99999) : f_trimmed [.lst (l.map .int)] S = .ok (tI (trim l)) S :=
  trimmed_l (fun _ _ => rfl) (fun S => by simp) (fun S m => ⟨.lst ((l.take m).map .int), by rw [dSl_lst, cut_to, ← List.map_take], by simp⟩) h
theorem trimmed_tup {l : List Int} (h : l.length ≤ 99999) : f_trimmed [tI l] S = .ok (tI (trim l)) S :=
  trimmed_l (fun _ _ => rfl) (fun S => by simp) (fun S m => ⟨tI (l.take m), by rw [dSl_tup, cut_to, ← List.map_take], by simp⟩) h
end
end SR
set_option Elab.async false
set_option linter.all false
set_option maxRecDepth 100000
set_option maxHeartbeats 4000000
/-! PC3: times_by -/
namespace SR
open PySem PySem.Spec PyProof.Rows L2 DL LamX PP
section
variable {S : Sto} {d : D} {p : Int} {n : Nat} {e : En} {a b : List Int}
/-- small numbers -/
theorem sm64 {l : List Int} {p : Int} (hp : p ≤ 7) (h : ∀ x ∈ l, 0 ≤ x ∧ x < p) (i : Nat) (h0 : 0 < p) : -(2 ^ 64) < cf l i ∧ cf l i < 2 ^ 64 := by
  have := cf_rng h0 h i
  omega
theorem times_by (hp : 0 < p) (hp7 : p ≤ 7) (la : a.length ≤ 400) (lb : b.length ≤ 400) (ra : ∀ x ∈ a, 0 ≤ x ∧ x < p) : f_times_by [.int p, tI a, tI b] S = .ok (tI (mulP p a b)) S := by
  unfold f_times_by t_times_by
  have hr : rng1 S [.int ((a.length : Int) + (b.length : Int))] = some ((List.range (a.length + b.length)).map fun k : Nat => D.int (k : Int)) := by
    have := rng1_nat (S := S) (j := a.length + b.length) (by omega)
    simpa using this
  simp [noOwn, hr]
  rw [lc_range (fun _ => 0) (fun k hk S => by simp) (by omega), zeros_map]
  simp [-List.map_replicate]
  generalize hr : loopS _ _ _ _ = r
  obtain ⟨e', rfl, f, s5, s6, s7, s8, rfl, fl, fr, fc⟩ := loop_of hr (fun k e => ∃ (f : List Int) (s5 s6 s7 s8 : Slot), e = [.val (.int p), .val (tI a), .val (tI b), .own (f.map .int), .hid, s5, s6, s7, s8] ∧ f.length = a.length + b.length ∧ (∀ x ∈ f, 0 ≤ x ∧ x < p) ∧ ∀ i, cg p (cf f i) (lm (a.take k) (cf b) i))
    ⟨List.replicate (a.length + b.length) 0, .hid, .hid, .hid, .hid, rfl, by simp, fun x hx => by have := List.eq_of_mem_replicate hx; omega, fun i => by rw [cf_zeros]; exact cg.refl _ _⟩ (fun k d hd e ⟨f, s5, s6, s7, s8, he, fl, fr, fc⟩ r hr => by
      subst he
      obtain ⟨hk, rfl⟩ := enum_get hd
      simp at hr
      generalize hr2 : loopS _ _ _ _ = r2 at hr
      obtain ⟨e', rfl, g, s7, s8, rfl, gl, gr, gc⟩ := loop_of hr2 (fun j e => ∃ (g : List Int) (s7 s8 : Slot), e = [.val (.int p), .val (tI a), .val (tI b), .own (g.map .int), .hid, .val (.int (k : Int)), .val (.int (cf a k)), s7, s8] ∧ g.length = a.length + b.length ∧ (∀ x ∈ g, 0 ≤ x ∧ x < p) ∧ ∀ i, cg p (cf g i) (cf f i + if k ≤ i ∧ i < k + j then cf a k * cf b (i - k) else 0))
        ⟨f, s7, s8, rfl, fl, fr, fun i => by rw [if_neg (by omega)]; exact cg.of_eq (by omega)⟩ (fun j d hd e ⟨g, s7, s8, he, gl, gr, gc⟩ r hr => by
          subst he
          obtain ⟨hj, rfl⟩ := enum_get hd
          have ei : ∀ S : Sto, dIx S (.lst (g.map .int)) (.int ((k : Int) + (j : Int))) = some (.int (cf g (k + j))) := fun S => by
            rw [show (k : Int) + (j : Int) = ((k + j : Nat) : Int) by omega]
            exact ix_lst (by omega)
          have em : ∀ S : Sto, dMul S (.int (cf a k)) (.int (cf b j)) = some (.int (cf a k * cf b j)) := fun S => dMul_int (.inl (sm64 hp7 ra k hp))
          simp [ei, em, dMod_int hp] at hr
          rw [sub_own (k := k + j) (l := g) (by rfl) (by simp) (by omega)] at hr
          refine ⟨_, hr.symm, _, _, _, rfl, by simpa using gl, mem_set (mod_rng hp _) gr, fun i => ?_⟩
          rw [cf_set (by omega)]
          by_cases hi : i = k + j
          · rw [if_pos hi, hi, if_pos (by omega), show k + j - k = j by omega]
            have := gc (k + j)
            rw [if_neg (by omega), Int.add_zero] at this
            exact (cg.mod p _).trans (this.add (cg.refl _ _))
          · rw [if_neg hi]
            have := gc i
            by_cases hc : k ≤ i ∧ i < k + j
            · rw [if_pos hc] at this; rw [if_pos (by omega)]; exact this
            · rw [if_neg hc] at this; rw [if_neg (by omega)]; exact this)
      rw [enum_len] at gc
      refine ⟨_, hr.symm, g, _, _, s7, s8, rfl, gl, gr, fun i => (gc i).trans ?_⟩
      rw [lm_take]
      refine (fc i).add (cg.of_eq ?_)
      by_cases h1 : k ≤ i
      · rw [if_pos h1]
        by_cases h2 : i < k + b.length
        · rw [if_pos ⟨h1, h2⟩]
        · rw [if_neg (by omega), cf_ge (a := b) (by omega), Int.mul_zero]
      · rw [if_neg (by omega), if_neg h1])
  rw [enum_len, List.take_length] at fc
  have e1 : trim f = mulP p a b := Ok.eq hp (ok_trim fr) (ok_mulP hp) fun i => by
    rw [cf_trim]
    exact (fc i).trans (mulP_cg i).symm
  simp [trimmed_lst (S := S) (l := f) (by omega), e1]
end
end SR
set_option Elab.async false
set_option linter.all false
set_option maxRecDepth 100000
/-! PR: quotients and rests as functions -/
namespace PP
def mono (k : Nat) : Ser := fun i => if i = k then 1 else 0
theorem mono_sh (k i : Nat) : mono (k + 1) i = sh (mono k) i := by cases i <;> simp [mono, sh]
theorem lm_mono (a : List Int) : ∀ k i : Nat, lm a (mono k) i = if k ≤ i then cf a (i - k) else 0
  | 0, i => by
    have : ∀ i, mono 0 i = cf [1] i := fun i => by cases i <;> simp [mono]
    rw [lm_congr this, lm_one]
    simp
  | k + 1, i => by
    rw [lm_congr (mono_sh k), lm_sh]
    cases i with
    | zero => simp [sh]
    | succ i =>
      show lm a (mono k) i = _
      rw [lm_mono a k i]
      simp
/-- a product with one value of a factor changed -/
theorem lm_put {q q' : List Int} {k : Nat} {v : Int} (h : ∀ i, cf q' i = if i = k then cf q i + v else cf q i) (d : List Int) (i : Nat) : lm q' (cf d) i = lm q (cf d) i + if k ≤ i then v * cf d (i - k) else 0 := by
  have e : ∀ i, cf q' i = cf q i + v * mono k i := fun i => by
    rw [h i]
    unfold mono
    split <;> simp
  rw [lm_swap q', lm_congr e, lm_add, lm_scl, lm_mono, lm_swap d q]
  split <;> simp
open Classical in
noncomputable def quoP (p : Int) (a d : List Int) : List Int := if h : ∃ q r, Dv p a d q r then h.choose else []
open Classical in
noncomputable def remP (p : Int) (a d : List Int) : List Int := if h : ∃ q r, Dv p a d q r then h.choose_spec.choose else []
/-- a divisor -/
structure Ds (p : Int) (d : List Int) : Prop where
  m : Pm p
  ok : Ok p d
  ne : d ≠ []
theorem Ds.top {p : Int} {d : List Int} (h : Ds p d) : ¬ cg p (cf d (d.length - 1)) 0 := h.ok.top_ne h.m.pos h.ne
theorem Dv.is {p : Int} {a d q r : List Int} (h : Ds p d) (x : Dv p a d q r) : quoP p a d = q ∧ remP p a d = r := by
  have ex : ∃ q r, Dv p a d q r := ⟨q, r, x⟩
  unfold quoP remP
  rw [dif_pos ex, dif_pos ex]
  exact Dv.uniq h.m.pos h.m h.ne h.top ex.choose_spec.choose_spec x
theorem Dv.fn {p : Int} {a d q r : List Int} (h : Ds p d) (x : Dv p a d q r) : Dv p a d (quoP p a d) (remP p a d) := by
  rw [(x.is h).1, (x.is h).2]
  exact x
end PP
set_option Elab.async false
set_option linter.all false
set_option maxRecDepth 100000
set_option maxHeartbeats 4000000
/-! PC4: inverse_of, divided_by -/
namespace SR
open PySem PySem.Spec PyProof.Rows L2 DL LamX PP
section
variable {S : Sto} {p : Int} {n : Nat} {e : En} {a d : List Int}
theorem inverse_of {v : Int} (h : Pm p) (h0 : 0 < v) (h1 : v < p) : f_inverse_of [.int p, .int v] S = .ok (.int (PP.inv p v)) S := by
  rcases h with rfl | rfl | rfl | rfl
  · have : v = 1 := by omega
    subst this; rfl
  · have : v = 1 ∨ v = 2 := by omega
    rcases this with rfl | rfl <;> rfl
  · have : v = 1 ∨ v = 2 ∨ v = 3 ∨ v = 4 := by omega
    rcases this with rfl | rfl | rfl | rfl <;> rfl
  · have : v = 1 ∨ v = 2 ∨ v = 3 ∨ v = 4 ∨ v = 5 ∨ v = 6 := by omega
    rcases this with rfl | rfl | rfl | rfl | rfl | rfl <;> rfl
theorem top_pos (h : Ds p d) : 0 < cf d (d.length - 1) ∧ cf d (d.length - 1) < p := by
  have h1 := cf_rng h.m.pos h.ok.rng (d.length - 1)
  have h2 := h.ok.top h.ne
  omega
theorem divided_by (h : Ds p d) (la : a.length ≤ 400) (ld : d.length ≤ 400) (ra : ∀ x ∈ a, 0 ≤ x ∧ x < p) : f_divided_by [.int p, tI a, tI d] S = .ok (.tup [tI (quoP p a d), tI (remP p a d)]) S ∧ Dv p a d (quoP p a d) (remP p a d) := by
  have hp := h.m.pos
  have hp7 := h.m.rng.2
  have hd := top_pos h
  have dl : 0 < d.length := List.length_pos_iff.mpr h.ne
  have hz := inv_mul h.m h.top
  have hv := inv_rng (v := cf d (d.length - 1)) h.m
  obtain ⟨v, ev⟩ : ∃ v, v = PP.inv p (cf d (d.length - 1)) := ⟨_, rfl⟩
  obtain ⟨n, hn⟩ : ∃ n : Nat, n = ((a.length : Int) - (d.length : Int) + 1).toNat := ⟨_, rfl⟩
  have hrg : rng2 S [.int 0, .int ((a.length : Int) - (d.length : Int) + 1)] = some ((List.range n).map fun k : Nat => D.int (k : Int)) := by
    unfold rng2
    dsimp only
    rw [if_pos (by omega), hn]
    simp
  have key : ∃ q r, Dv p a d q r ∧ f_divided_by [.int p, tI a, tI d] S = .ok (.tup [tI q, tI r]) S := by
    unfold f_divided_by t_divided_by
    simp [noOwn, rng1_natz (S := S) (j := a.length) (by omega)]
    rw [lc_range (fun _ => 0) (fun k hk S => by simp) (by omega), zeros_map]
    simp [-List.map_replicate, ix_tup_last h.ne, inverse_of h.m hd.1 hd.2, hrg]
    rw [← ev] at hz hv ⊢
    generalize hr : loopS _ _ _ _ = r
    obtain ⟨e', rfl, rest, quot, s7, s8, s9, s10, rfl, rl, ql, rr, qr, q0, r0, eq⟩ := loop_of hr (fun j e => ∃ (rest quot : List Int) (s7 s8 s9 s10 : Slot), e = [.val (.int p), .val (tI a), .val (tI d), .own (rest.map .int), .own (quot.map .int), .hid, .val (.int v), s7, s8, s9, s10] ∧
        rest.length = a.length ∧ quot.length = a.length ∧ (∀ x ∈ rest, 0 ≤ x ∧ x < p) ∧ (∀ x ∈ quot, 0 ≤ x ∧ x < p) ∧ (∀ i, i + j < n → cf quot i = 0) ∧ (∀ i, n + d.length ≤ i + j + 1 → cf rest i = 0) ∧ ∀ i, cg p (cf a i) (lm quot (cf d) i + cf rest i))
      ⟨a, List.replicate a.length 0, .hid, .hid, .hid, .hid, rfl, rfl, by simp, ra, fun x hx => by have := List.eq_of_mem_replicate hx; omega, fun i _ => cf_zeros, fun i hi => cf_ge (by omega), fun i => by
        rw [lm_swap, lm_congr (g := fun _ => 0) (fun i => cf_zeros), lm_zero]
        exact cg.of_eq (by omega)⟩ (fun j x hx e ⟨rest, quot, s7, s8, s9, s10, he, rl, ql, rr, qr, q0, r0, eq⟩ r hr => by
        subst he
        obtain ⟨hj, rfl⟩ := rev_get hx
        obtain ⟨k, hk⟩ : ∃ k : Nat, k = n - 1 - j := ⟨_, rfl⟩
        rw [← hk] at hr
        have kl : k + d.length ≤ a.length := by omega
        have ei : ∀ S : Sto, dIx S (.lst (rest.map .int)) (.int ((k : Int) + (d.length : Int) - 1)) = some (.int (cf rest (k + d.length - 1))) := fun S => by
          rw [show (k : Int) + (d.length : Int) - 1 = ((k + d.length - 1 : Nat) : Int) by omega]
          exact ix_lst (by omega)
        have em : ∀ (S : Sto) (x : Int), dMul S (.int x) (.int v) = some (.int (x * v)) := fun S x => dMul_int (.inr (by omega))
        obtain ⟨w, hw⟩ : ∃ w, w = cf rest (k + d.length - 1) * v % p := ⟨_, rfl⟩
        have wr : 0 ≤ w ∧ w < p := by rw [hw]; exact mod_rng hp _
        simp [ei, em, dMod_int hp] at hr
        rw [← hw] at hr
        rw [sub_own (k := k) (l := quot) (by rfl) (by simp) (by omega)] at hr
        simp [-List.map_set] at hr
        generalize hr2 : loopS _ _ _ _ = r2 at hr
        obtain ⟨e', rfl, g, s9, s10, rfl, gl, gr, gc⟩ := loop_of hr2 (fun m e => ∃ (g : List Int) (s9 s10 : Slot), e = [.val (.int p), .val (tI a), .val (tI d), .own (g.map .int), .own ((quot.set k w).map .int), .hid, .val (.int v), .val (.int (k : Int)), .val (.int w), s9, s10] ∧ g.length = a.length ∧ (∀ x ∈ g, 0 ≤ x ∧ x < p) ∧ ∀ i, cg p (cf g i) (cf rest i - if k ≤ i ∧ i < k + m then w * cf d (i - k) else 0))
          ⟨rest, s9, s10, rfl, rl, rr, fun i => by rw [if_neg (by omega)]; exact cg.of_eq (by omega)⟩ (fun m x hx e ⟨g, s9, s10, he, gl, gr, gc⟩ r hr => by
            subst he
            obtain ⟨hm, rfl⟩ := enum_get hx
            have ei : ∀ S : Sto, dIx S (.lst (g.map .int)) (.int ((k : Int) + (m : Int))) = some (.int (cf g (k + m))) := fun S => by
              rw [show (k : Int) + (m : Int) = ((k + m : Nat) : Int) by omega]
              exact ix_lst (by omega)
            have em : ∀ S : Sto, dMul S (.int w) (.int (cf d m)) = some (.int (w * cf d m)) := fun S => dMul_int (.inl (by omega))
            simp [-List.map_set, ei, em, dMod_int hp] at hr
            rw [sub_own (k := k + m) (l := g) (by rfl) (by simp) (by omega)] at hr
            refine ⟨_, hr.symm, _, _, _, rfl, by simpa using gl, mem_set (mod_rng hp _) gr, fun i => ?_⟩
            rw [cf_set (by omega)]
            by_cases hi : i = k + m
            · rw [if_pos hi, hi, if_pos (by omega), show k + m - k = m by omega]
              have := gc (k + m)
              rw [if_neg (by omega), Int.sub_zero] at this
              exact (cg.mod p _).trans (this.sub (cg.refl _ _))
            · rw [if_neg hi]
              have := gc i
              by_cases hc : k ≤ i ∧ i < k + m
              · rw [if_pos hc] at this; rw [if_pos (by omega)]; exact this
              · rw [if_neg hc] at this; rw [if_neg (by omega)]; exact this)
        rw [enum_len] at gc
        have gc2 : ∀ i, cg p (cf g i) (cf rest i - if k ≤ i then w * cf d (i - k) else 0) := fun i => by
          have := gc i
          by_cases h1 : k ≤ i
          · rw [if_pos h1]
            by_cases h2 : i < k + d.length
            · rw [if_pos ⟨h1, h2⟩] at this; exact this
            · rw [if_neg (by omega)] at this
              rw [cf_ge (a := d) (by omega), Int.mul_zero]
              exact this
          · rw [if_neg (by omega)] at this
            rw [if_neg h1]
            exact this
        have qk : cf quot k = 0 := q0 k (by omega)
        refine ⟨_, hr.symm, g, quot.set k w, _, _, s9, s10, rfl, gl, by simpa using ql, gr, mem_set wr qr, fun i hi => ?_, fun i hi => ?_, fun i => ?_⟩
        · rw [cf_set (by omega), if_neg (by omega)]
          exact q0 i (by omega)
        · refine cg.eq (p := p) ?_ (cf_rng hp gr i) ⟨Int.le_refl _, hp⟩
          by_cases h1 : n + d.length ≤ i + j + 1
          · refine (gc2 i).trans (cg.of_eq ?_)
            rw [r0 i h1, if_pos (by omega), cf_ge (a := d) (by omega)]
            simp
          · have hi2 : i = k + d.length - 1 := by omega
            refine (gc2 i).trans ?_
            rw [if_pos (by omega), hi2, show k + d.length - 1 - k = d.length - 1 by omega]
            have e1 : cg p (w * cf d (d.length - 1)) (cf rest (k + d.length - 1)) := by
              have h2 : cg p (w * cf d (d.length - 1)) (cf rest (k + d.length - 1) * v * cf d (d.length - 1)) := (cg.mod p _ |> fun z => (cg.of_eq hw).trans z).mul (cg.refl _ _)
              refine h2.trans ?_
              have h3 := (cg.refl p (cf rest (k + d.length - 1))).mul hz
              refine (cg.of_eq ?_).trans (h3.trans (cg.of_eq (Int.mul_one _)))
              grind
            have := (cg.refl p (cf rest (k + d.length - 1))).sub e1
            exact this.trans (cg.of_eq (by omega))
        · have e2 := lm_put (q := quot) (q' := quot.set k w) (k := k) (v := w) (fun i => by
            rw [cf_set (by omega)]
            by_cases hi : i = k
            · rw [if_pos hi, if_pos hi, hi, qk]; omega
            · rw [if_neg hi, if_neg hi]) d i
          rw [e2]
          refine (eq i).trans ?_
          have e3 := ((cg.refl p (lm quot (cf d) i + if k ≤ i then w * cf d (i - k) else 0)).add (gc2 i)).symm
          exact (cg.of_eq (by omega)).trans e3)
    simp at r0 eq
    have e1 := trimmed_lst (S := S) (l := quot) (by omega)
    have e2 := trimmed_lst (S := S) (l := rest) (by omega)
    refine ⟨trim quot, trim rest, ⟨ok_trim qr, ok_trim rr, ?_, fun i => ?_⟩, ?_⟩
    · have : (trim rest).length ≤ d.length - 1 := (ok_trim rr).len_le hp fun i hi => by
        rw [cf_trim]
        by_cases hl : a.length ≤ i
        · rw [cf_ge (by omega)]; exact cg.refl _ _
        · exact cg.of_eq (r0 i (by omega))
      omega
    · rw [cf_trim, lm_swap (trim quot), lm_congr (cf_trim quot), lm_swap d]
      exact eq i
    · simp [e1, e2]
  obtain ⟨q, r, hx, he⟩ := key
  rw [(hx.is h).1, (hx.is h).2]
  exact ⟨he, hx⟩
end
end SR
set_option Elab.async false
set_option linter.all false
set_option maxRecDepth 100000
set_option maxHeartbeats 4000000
/-! PCa: polynomial_by -/
namespace SR
open PySem PySem.Spec PyProof.Rows L2 DL LamX PP
section
variable {S : Sto} {p : Int} {n : Nat} {e : En} {a b c d : List Int}
def negP (p : Int) (l : List Int) : List Int := l.map fun x => (0 - x) % p
theorem negP_neg (hp : 0 < p) {l : List Int} (h : ∀ x ∈ l, 0 ≤ x ∧ x < p) : negP p (negP p l) = l := by
  unfold negP
  rw [List.map_map]
  conv => rhs; rw [← List.map_id l]
  refine List.map_congr_left fun x hx => ?_
  have := h x hx
  show (0 - (0 - x) % p) % p = x
  by_cases hz : x = 0
  · subst hz; simp
  · have : (0 - x) % p = p - x := by
      rw [show 0 - x = (p - x) + p * (-1) by omega, Int.add_mul_emod_self_left, Int.emod_eq_of_lt (by omega) (by omega)]
    rw [this, show 0 - (p - x) = x + p * (-1) by omega, Int.add_mul_emod_self_left, Int.emod_eq_of_lt (by omega) (by omega)]
theorem negP_rng (hp : 0 < p) {l : List Int} : ∀ x ∈ negP p l, 0 ≤ x ∧ x < p := fun x hx => by
  obtain ⟨y, _, rfl⟩ := List.mem_map.mp hx
  exact mod_rng hp _
theorem polynomial_by (hp : 0 < p) (la : a.length ≤ 1000) : f_polynomial_by [.int p, tI a] S = .ok (tI (negP p a ++ [1])) S := by
  unfold f_polynomial_by t_polynomial_by
  simp [noOwn]
  rw [lc_list fun x => (0 - x) % p]
  · have h1 : a.length + 1 ≤ 100000 := by omega
    have h2 : a.length ≤ 99999 := by omega
    simp [negP, h1, h2]
  · intro x hx S
    simp [dMod_int hp]
  · omega
end
end SR
set_option Elab.async false
set_option linter.all false
set_option maxRecDepth 100000
set_option maxHeartbeats 4000000
/-! PF1: next_by, broken_by, keeps_by, gone_by -/
namespace SR
open PySem PySem.Spec PyProof.Rows L2 DL LamX
section
variable {S : Sto} {d : D} {p : Int} {n : Nat} {e : En}
/-- numbers that the layer multiplies -/
abbrev Bd (l : List Int) : Prop := ∀ x ∈ l, -(2 ^ 64) < x ∧ x < 2 ^ 64
theorem prods {l m : List Int} {a : Nat} {b : Nat} {e : En} (hl : Bd l) (h1 : l.length ≤ 1000) {mg : MG} {me : M D} (hb : ∀ q ∈ l.zip m, ∀ S, lcBody [a, b] mg (mC true) me e (.tup [.int q.1, .int q.2]) S = (noX (oR (dMul S (.int q.1) (.int q.2)) S)).bnd fun y S3 => .ok (some y) S3) (S : Sto) :
    lcL (lcBody [a, b] mg (mC true) me e) (zipL (l.map D.int) (m.map D.int)) S [] = .ok ((prodL l m).map D.int) S := by
  rw [zip_fm, lc_map (f := fun q => some (.int (q.1 * q.2)))]
  · simp [List.filterMap_eq_map', List.zip, List.map_zipWith, prodL]
  · simp
    omega
  · intro q hq S
    rw [hb q hq S]
    have := hl q.1 (List.of_mem_zip hq).1
    rw [dMul_int (Or.inl this)]
    rfl
theorem next_by {rule st : List Int} {x : D} (hx : itemsL x = some (st.map .int)) (hp : 0 < p) (hl : Bd rule) (h1 : rule.length ≤ 1000) : f_next_by [.int p, tI rule, x] S = .ok (.int (dot rule st % p)) S := by
  unfold f_next_by t_next_by
  have hz : zipOf S [tI rule, x] = some (zipL (rule.map D.int) (st.map D.int)) := by
    show (match some (rule.map D.int), itemsL x with | some x, some y => some (zipL x y) | _, _ => none) = _
    rw [hx]
  simp [noOwn, hz]
  rw [prods hl h1 (fun q hq S => by simp)]
  simp [dMod_int hp]
  rfl
/-- the places that break the rule, from len(rule) on -/
def brk (p : Int) (row rule : List Int) (k : Nat) : Bool := !decide (row.getD (rule.length + k) 0 = dot rule ((row.drop k).take rule.length) % p)
def lotsN (p : Int) (row rule : List Int) : List Nat := (List.range (row.length - rule.length)).filter (brk p row rule)
def lots (p : Int) (row rule : List Int) : List Int := (lotsN p row rule).map fun k => (rule.length : Int) + (k : Nat)
theorem lots_fm {p : Int} {row rule : List Int} : (List.range (row.length - rule.length)).filterMap (fun k => if brk p row rule k = true then some (D.int ((rule.length : Int) + (k : Nat))) else none) = (lots p row rule).map D.int := by
  unfold lots lotsN
  generalize List.range (row.length - rule.length) = ks
  induction ks with
  | nil => rfl
  | cons k ks ih =>
    rw [List.filterMap_cons, List.filter_cons]
    cases brk p row rule k <;> simp [ih]
theorem broken_by {row rule : List Int} (hp : 0 < p) (hl : Bd rule) (h1 : rule.length ≤ 1000) (h2 : row.length ≤ 1000) : f_broken_by [.int p, tI row, tI rule] S = .ok (.lst ((lots p row rule).map .int)) S := by
  unfold f_broken_by t_broken_by
  simp [noOwn, rng2_nat h1 h2]
  rw [lc_map (f := fun k => if brk p row rule k = true then some (D.int ((rule.length : Int) + (k : Nat))) else none)]
  · rw [lots_fm]
    rfl
  · simp
    omega
  · intro k hk S
    have hk : k < row.length - rule.length := List.mem_range.mp hk
    have hi : rule.length + k < row.length := by omega
    have e1 : ((rule.length : Int) + (k : Int)) = ((rule.length + k : Nat) : Int) := by omega
    have e2 : ((rule.length : Int) + (k : Int)) - (rule.length : Int) = (k : Int) := by omega
    have e3 := dIx_tI (S := S) (l := row) hi
    have e4 : cutL (row.map D.int) (some (k : Int)) (some ((rule.length : Int) + (k : Int))) = ((row.drop k).take rule.length).map D.int := by
      rw [e1, cut_map, cut_mid _ _ _ (by omega), show rule.length + k - k = rule.length by omega]
    rw [← e1] at e3
    simp [e2, e3, e4]
    rw [next_by (st := (row.drop k).take rule.length) (by simp [itemsL]) hp hl h1]
    have e5 : brk p row rule k = !decide (row[rule.length + k] = dot rule ((row.drop k).take rule.length) % p) := by
      unfold brk
      rw [List.getD_eq_getElem?_getD, List.getElem?_eq_getElem hi]
      rfl
    simp [e5]
    by_cases hh : row[rule.length + k] = dot rule ((row.drop k).take rule.length) % p <;> simp [hh]
theorem keeps_by {row rule : List Int} (hp : 0 < p) (hl : Bd rule) (h1 : rule.length ≤ 1000) (h2 : row.length ≤ 1000) : f_keeps_by [.int p, tI row, tI rule] S = .ok (.bl (decide (lots p row rule = []))) S := by
  unfold f_keeps_by t_keeps_by
  simp [broken_by hp hl h1 h2, dEq_nil]
def goN (p : Int) (rule : List Int) : Nat → List Int → List Int
  | 0, l => l
  | k + 1, l => goN p rule k (l ++ [dot rule (l.drop (l.length - rule.length)) % p])
theorem gone_loop {rule : List Int} {b : D → MS} {v0 v1 v2 v3 : Slot} (hb : ∀ (x : D) (l : List Int) (s : Slot) (S : Sto), rule.length ≤ l.length → l.length ≤ 1000 → ∃ s', b x [v0, v1, v2, v3, .own (l.map D.int), s] S = .nx [v0, v1, v2, v3, .own ((l ++ [dot rule (l.drop (l.length - rule.length)) % p]).map D.int), s'] S) :
    ∀ (ds : List D) (l : List Int) (s : Slot) (S : Sto), rule.length ≤ l.length → l.length + ds.length ≤ 1000 → ∃ s', loopS b ds [v0, v1, v2, v3, .own (l.map D.int), s] S = .nx [v0, v1, v2, v3, .own ((goN p rule ds.length l).map D.int), s'] S
  | [], l, s, S, _, _ => ⟨s, rfl⟩
  | x :: ds, l, s, S, h1, h2 => by
    obtain ⟨s1, e1⟩ := hb x l s S h1 (by omega)
    obtain ⟨s2, e2⟩ := gone_loop hb ds (l ++ [dot rule (l.drop (l.length - rule.length)) % p]) s1 S (by simp; omega) (by simp at h2 ⊢; omega)
    refine ⟨s2, ?_⟩
    show (match b x [v0, v1, v2, v3, .own (l.map D.int), s] S with | .nx e1 S1 => loopS b ds e1 S1 | .ct e1 S1 => loopS b ds e1 S1 | .bk e1 S1 => .nx e1 S1 | r => r) = _
    rw [e1]
    exact e2
theorem gone_by {row rule : List Int} {many : Nat} (hp : 0 < p) (hl : Bd rule) (h1 : rule.length ≤ row.length) (h2 : row.length + many ≤ 1000) : f_gone_by [.int p, tI row, tI rule, .int many] S = .ok (tI (goN p rule many row)) S := by
  unfold f_gone_by t_gone_by
  obtain ⟨s', e⟩ := gone_loop (p := p) (rule := rule) (v0 := .val (.int p)) (v1 := .val (tI row)) (v2 := .val (tI rule)) (v3 := .val (.int many)) (b := mBody (mgName 5) (mAppOwn 4 (mCall 3 0 [0, 1, 2] 3 f_next_by (mCons (mVar 0) (mCons (mVar 2) (mCons (mSl dSl (mOwn 4) (mPart (mOp dSub (mCB dLen (mCons (mOwn 4) (mNil))) (mCB dLen (mCons (mVar 2) (mNil))))) (mC none)) (mNil)))) (mNil))))
    (fun x l s S a1 a2 => by
      refine ⟨.val x, ?_⟩
      simp [cut_end a1]
      rw [next_by (st := l.drop (l.length - rule.length)) (by simp [itemsL]) hp hl (by omega)]
      simp
      omega) ((List.range many).map fun k => D.int (0 + (k : Nat))) row .hid S h1 (by simpa using h2)
  simp only [List.length_map, List.length_range] at e
  simp [itemsAny, rng1_nat (S := S) (j := many) (by omega)]
  rw [show (fun k : Nat => D.int (k : Int)) = (fun k : Nat => D.int (0 + (k : Nat))) by funext k; simp]
  rw [e]
  simp
end
end SR
set_option Elab.async false
set_option linter.all false
set_option maxRecDepth 100000
set_option maxHeartbeats 4000000
namespace SR
open PySem PySem.Spec PyProof.Rows L2 DL LamX
section
variable {S : Sto} {d : D} {p : Int} {n : Nat} {e : En}
theorem bw_ix0 {a b : Int} (h : S[n]? = some (.lst [.int a, .int b])) : dIx S (.ref n) (.int 0) = some (.int a) := by
  unfold dIx lsOf
  simp only [h]
  rfl
theorem bw_ix1 {a b : Int} (h : S[n]? = some (.lst [.int a, .int b])) : dIx S (.ref n) (.int 1) = some (.int b) := by
  unfold dIx lsOf
  simp only [h]
  rfl
theorem bw_set0 {a b : Int} (h : S[n]? = some (.lst [.int a, .int b])) (he : e[0]? = some (.val (.ref n))) : mgSubRef (mVar 0) (mC (.int 0)) d e S = .nx e (S.set n (.lst [d, .int b])) := by
  unfold mgSubRef
  have h0 : ixN 2 0 = some 0 := rfl
  simp [he, h, h0]
theorem bw_set1 {a b : Int} (h : S[n]? = some (.lst [.int a, .int b])) (he : e[0]? = some (.val (.ref n))) : mgSubRef (mVar 0) (mC (.int 1)) d e S = .nx e (S.set n (.lst [.int a, d])) := by
  unfold mgSubRef
  have h0 : ixN 2 1 = some 1 := rfl
  simp [he, h, h0]
theorem bw_at {c c' : Cell} (h : S[n]? = some c) : (S.set n c')[n]? = some c' := by
  have := (List.getElem?_eq_some_iff.mp h).1
  simp [this]
abbrev Upto (m : Int) (d : D) : Prop := ∃ k : Int, d = .int k ∧ 0 ≤ k ∧ k < m
theorem draw {m : Int} (h0 : 0 < m) (h1 : m < 1073741824) (hb : Bw n S) : Gen n (f_L_draw [.ref n, .int m] S) (Upto m) := by
  obtain ⟨a, b, h⟩ := hb
  unfold f_L_draw t_L_draw
  by_cases ha : 0 < a
  · refine ⟨.int (a % m), S.set n (.lst [.int (a / m), .int b]), ?_, ⟨_, _, bw_at h⟩, _, rfl, Int.emod_nonneg _ (by omega), Int.emod_lt_of_pos _ h0⟩
    simp [bw_ix0 h, ha, dDivmod_int ⟨h0, h1⟩]
    rw [bw_set0 h (by rfl)]
    simp
  · have g1 : ∀ b' : Int, (S.set n (.lst [.int a, .int b']))[n]? = some (.lst [.int a, .int b']) := fun b' => bw_at h
    obtain ⟨x, hx⟩ : ∃ x : Int, x = (b * 36969 + 19) % 2147483423 := ⟨_, rfl⟩
    obtain ⟨y, hy⟩ : ∃ y : Int, y = (x * 18000 + x / 6263) % 2147483423 := ⟨_, rfl⟩
    refine ⟨.int (y / 907 % m), S.set n (.lst [.int a, .int y]), ?_, ⟨_, _, g1 _⟩, _, rfl, Int.emod_nonneg _ (by omega), Int.emod_lt_of_pos _ h0⟩
    have e1 : ∀ S1 : Sto, dMul S1 (.int b) (.int 36969) = some (.int (b * 36969)) := fun _ => dMul_int (Or.inr (by decide))
    have e2 : ∀ S1 : Sto, dMul S1 (.int x) (.int 18000) = some (.int (x * 18000)) := fun _ => dMul_int (Or.inr (by decide))
    have e3 : ∀ (S1 : Sto) (z : Int), dMod S1 (.int z) (.int 2147483423) = some (.int (z % 2147483423)) := fun _ _ => dMod_int (by decide)
    have e4 : ∀ (S1 : Sto) (z : Int), dDiv S1 (.int z) (.int 6263) = some (.int (z / 6263)) := fun _ _ => dDiv_int (by decide)
    have e5 : ∀ (S1 : Sto) (z : Int), dDiv S1 (.int z) (.int 907) = some (.int (z / 907)) := fun _ _ => dDiv_int (by decide)
    simp [bw_ix0 h, bw_ix1 h, ha, e1, e3]
    rw [← hx, bw_set1 h (by rfl)]
    simp [bw_ix1 (g1 x), e2, e3, e4]
    rw [← hy, bw_set1 (g1 x) (by rfl)]
    simp [bw_ix1 (g1 y), e5, dMod_int h0]
theorem of_tup {ds : List D} (h0 : ds ≠ []) (h1 : ds.length < 1073741824) (hb : Bw n S) : Gen n (f_L_of [.ref n, .tup ds] S) (· ∈ ds) := by
  unfold f_L_of t_L_of
  have hp : 0 < ds.length := List.length_pos_iff.mpr h0
  obtain ⟨v, S', e, b, k, rfl, k0, k1⟩ := draw (n := n) (S := S) (m := ds.length) (by omega) (by omega) hb
  obtain ⟨x, q1, q2, q3⟩ := DL.atI_lt k0 k1
  refine ⟨x, S', ?_, b, q3⟩
  simp [e]
  show (endF ((oR (atI ds k) S').bndS _ _)) = _
  rw [q1]
  simp
theorem of_lst {ds : List D} (h0 : ds ≠ []) (h1 : ds.length < 1073741824) (hb : Bw n S) : Gen n (f_L_of [.ref n, .lst ds] S) (· ∈ ds) := by
  unfold f_L_of t_L_of
  have hp : 0 < ds.length := List.length_pos_iff.mpr h0
  obtain ⟨v, S', e, b, k, rfl, k0, k1⟩ := draw (n := n) (S := S) (m := ds.length) (by omega) (by omega) hb
  obtain ⟨x, q1, q2, q3⟩ := DL.atI_lt k0 k1
  refine ⟨x, S', ?_, b, q3⟩
  simp [e]
  show (endF ((oR (atI ds k) S').bndS _ _)) = _
  rw [q1]
  simp
theorem lcg {v : Nat} {me : M D} {ds : List D} {Q : D → Prop} (h : ∀ d ∈ ds, ∀ S, Bw n S → Gen n (me (e.set v (.val d)) S) Q) (hl : ds.length ≤ 1000) (hb : Bw n S) :
    Gen n (lcL (lcBody [v] (mgName v) (mC true) me e) ds S []) (fun ys => ys.length = ds.length ∧ ∀ y ∈ ys, Q y) := by
  obtain ⟨ys, S', e1, b1, l1, q1⟩ := lc_gen (I := Bw n) (Q := Q) ds S [] hb (by simp; omega) (fun d hd S hS => by
    obtain ⟨y, S1, e1, b1, q1⟩ := h d hd S hS
    refine ⟨y, S1, ?_, b1, q1⟩
    show (noX (me ((e.set v .hid).set v (.val d)) S)).bnd _ = _
    rw [List.set_set, e1]
    rfl) (body := lcBody [v] (mgName v) (mC true) me e)
  exact ⟨ys, S', by simpa using e1, b1, l1, q1⟩
theorem lcg_ints {a b : Int} {v : Nat} {me : M D} {ds : List D} {r : Res (List D)} (hr : lcL (lcBody [v] (mgName v) (mC true) me e) ds S [] = r) (h : ∀ d ∈ ds, ∀ S, Bw n S → Gen n (me (e.set v (.val d)) S) (fun y => ∃ k : Int, y = .int k ∧ a ≤ k ∧ k < b)) (hl : ds.length ≤ 1000) (hb : Bw n S) :
    ∃ (l : List Int) (S' : Sto), r = .ok (l.map .int) S' ∧ Bw n S' ∧ l.length = ds.length ∧ ∀ x ∈ l, a ≤ x ∧ x < b := by
  obtain ⟨ys, S', e1, b1, l1, q1⟩ := lcg h hl hb
  obtain ⟨l, rfl, q2⟩ := ints_of q1
  exact ⟨l, S', hr.symm.trans e1, b1, by simpa using l1, q2⟩
/-- a tuple of numbers of the modulus -/
abbrev Rw (p : Int) (m : Int) (d : D) : Prop := ∃ l : List Int, d = tI l ∧ (l.length : Int) ≤ m ∧ ∀ x ∈ l, 0 ≤ x ∧ x < p
end
end SR
set_option Elab.async false
set_option linter.all false
set_option maxRecDepth 100000
set_option maxHeartbeats 4000000
/-! PF3: drawn rules, the law rows -/
namespace SR
open PySem PySem.Spec PyProof.Rows L2 DL LamX
section
variable {S : Sto} {d : D} {p : Int} {n : Nat} {e : En}
theorem rule_gen {most : Int} (hp : 2 ≤ p) (hp7 : p ≤ 7) (h0 : 0 ≤ most) (h1 : most ≤ 60) (hb : Bw n S) : Gen n (f_L_rule [.ref n, .int p, .int most] S) (Rw p most) := by
  unfold f_L_rule t_L_rule
  obtain ⟨_, S1, e1, b1, many, rfl, m0, m1⟩ := draw (n := n) (S := S) (m := most + 1) (by omega) (by omega) hb
  obtain ⟨_, S2, e2, b2, way, rfl, w0, w1⟩ := draw (n := n) (S := S1) (m := 5) (by omega) (by omega) b1
  simp [e1, e2]
  by_cases h4 : way = 4
  · obtain ⟨_, S3, e3, b3, late, rfl, l0, l1⟩ := draw (n := n) (S := S2) (m := many + 1) (by omega) (by omega) b2
    simp [h4, e3, rep1 (S := S3) (x := 0) (j := late) (by omega) (by omega), rng1_int (S := S3) (j := many - late) (by omega) (by omega), noOwn]
    generalize hr : lcL _ _ _ _ = r
    obtain ⟨l, S', rfl, b, ll, hl⟩ := lcg_ints (a := 0) (b := p) hr (fun d hd S hS => by
        obtain ⟨_, S4, e4, b4, k, rfl, k0, k1⟩ := draw (n := n) (S := S) (m := p - 1) (by omega) (by omega) hS
        refine ⟨.int (1 + k), S4, ?_, b4, _, rfl, by omega, by omega⟩
        simp [e4]) (by simp; omega) b3
    simp at ll
    have ea := add_tI (S := S') (l := List.replicate late.toNat 0) (m := l) (by simp; omega)
    simp [ea]
    refine Gen.ok b ⟨List.replicate late.toNat 0 ++ l, by simp, by simp; omega, fun x hx => ?_⟩
    rcases List.mem_append.mp hx with hx | hx
    · have := (List.mem_replicate.mp hx).2
      omega
    · exact hl x hx
  · by_cases h00 : way = 0
    · simp [h00, rng1_int (S := S2) (j := many) (by omega) (by omega), noOwn]
      generalize hr : lcL _ _ _ _ = r
      obtain ⟨l, S', rfl, b, ll, hl⟩ := lcg_ints (a := 0) (b := p) hr (fun d hd S hS => by
          obtain ⟨x, S4, e4, b4, hx⟩ := of_tup (n := n) (S := S) (ds := [.int 0, .int 0, .int 1, .int (p - 1)]) (by simp) (by simp) hS
          refine ⟨x, S4, ?_, b4, ?_⟩
          · simp [e4]
          · simp at hx
            rcases hx with rfl | rfl | rfl
            · exact ⟨_, rfl, by omega, by omega⟩
            · exact ⟨_, rfl, by omega, by omega⟩
            · exact ⟨_, rfl, by omega, by omega⟩) (by simp; omega) b2
      simp at ll
      simp
      exact Gen.ok b ⟨l, rfl, by omega, hl⟩
    · by_cases h11 : way = 1
      · obtain ⟨_, S3, e3, b3, x, rfl, l0, l1⟩ := draw (n := n) (S := S2) (m := p) (by omega) (by omega) b2
        have er := rep1 (S := S3) (x := x) (j := many) (by omega) (by omega)
        simp [h11, e3, er]
        refine Gen.ok b3 ⟨List.replicate many.toNat x, by simp, by simp; omega, fun y hy => ?_⟩
        have := (List.mem_replicate.mp hy).2
        omega
      · simp [h4, h00, h11, rng1_int (S := S2) (j := many) (by omega) (by omega), noOwn]
        generalize hr : lcL _ _ _ _ = r
        obtain ⟨l, S', rfl, b, ll, hl⟩ := lcg_ints (a := 0) (b := p) hr (fun d hd S hS => by
            obtain ⟨_, S4, e4, b4, k, rfl, k0, k1⟩ := draw (n := n) (S := S) (m := p) (by omega) (by omega) hS
            refine ⟨.int k, S4, ?_, b4, _, rfl, by omega, by omega⟩
            simp [e4]) (by simp; omega) b2
        simp at ll
        simp
        exact Gen.ok b ⟨l, rfl, by omega, hl⟩
theorem go_loop {rule : List Int} {b : D → MS} {v0 v1 v2 v3 : Slot} (hb : ∀ (x : D) (l : List Int) (s t : Slot) (S : Sto), rule.length ≤ l.length → l.length ≤ 1000 → ∃ s' t', b x [v0, v1, v2, v3, .own (l.map D.int), s, t, .hid, .hid] S = .nx [v0, v1, v2, v3, .own ((l ++ [dot rule (l.drop (l.length - rule.length)) % p]).map D.int), s', t', .hid, .hid] S) :
    ∀ (ds : List D) (l : List Int) (s t : Slot) (S : Sto), rule.length ≤ l.length → l.length + ds.length ≤ 1000 → ∃ s' t', loopS b ds [v0, v1, v2, v3, .own (l.map D.int), s, t, .hid, .hid] S = .nx [v0, v1, v2, v3, .own ((goN p rule ds.length l).map D.int), s', t', .hid, .hid] S
  | [], l, s, t, S, _, _ => ⟨s, t, rfl⟩
  | x :: ds, l, s, t, S, h1, h2 => by
    obtain ⟨s1, t1, e1⟩ := hb x l s t S h1 (by omega)
    obtain ⟨s2, t2, e2⟩ := go_loop hb ds (l ++ [dot rule (l.drop (l.length - rule.length)) % p]) s1 t1 S (by simp; omega) (by simp at h2 ⊢; omega)
    refine ⟨s2, t2, ?_⟩
    show (match b x [v0, v1, v2, v3, .own (l.map D.int), s, t, .hid, .hid] S with | .nx e1 S1 => loopS b ds e1 S1 | .ct e1 S1 => loopS b ds e1 S1 | .bk e1 S1 => .nx e1 S1 | r => r) = _
    rw [e1]
    exact e2
theorem law_go {row rule : List Int} {many : Nat} (hp : 0 < p) (hl : Bd rule) (h1 : rule.length ≤ row.length) (h2 : row.length + many ≤ 1000) : f_L_go [.int p, tI row, tI rule, .int many] S = .ok (tI (goN p rule many row)) S := by
  unfold f_L_go t_L_go
  simp [itemsAny, rng1_nat (S := S) (j := many) (by omega)]
  generalize hb : mBody _ _ = b
  obtain ⟨s', t', e⟩ := go_loop (p := p) (rule := rule) (v0 := .val (.int p)) (v1 := .val (tI row)) (v2 := .val (tI rule)) (v3 := .val (.int many)) (b := b)
    (fun x l s t S a1 a2 => by
      refine ⟨.val x, .val (.lst ((l.drop (l.length - rule.length)).map .int)), ?_⟩
      have hz : ∀ S : Sto, zipOf S [tI rule, .lst ((l.drop (l.length - rule.length)).map D.int)] = some (zipL (rule.map D.int) ((l.drop (l.length - rule.length)).map D.int)) := fun _ => rfl
      rw [← hb]
      simp only [List.map_drop] at hz
      simp [cut_end a1, noOwn, hz]
      have := prods (a := 7) (b := 8) (l := rule) (m := l.drop (l.length - rule.length)) (mg := mgTup 2 (mgN2 7 8)) (me := mOp dMul (mVar 7) (mVar 8))
        (e := [.val (.int p), .val (tI row), .val (tI rule), .val (.int many), .own (l.map D.int), .val x, .val (.lst ((l.map D.int).drop (l.length - rule.length))), .hid, .hid]) hl (by omega) (fun q hq S => by simp) S
      simp only [List.map_drop] at this
      rw [this]
      simp [dMod_int hp]
      rw [if_pos (by omega)]
      rfl) ((List.range many).map fun k => D.int (0 + (k : Nat))) row .hid .hid S h1 (by simpa using h2)
  simp only [List.length_map, List.length_range] at e
  rw [show (fun k : Nat => D.int (k : Int)) = (fun k : Nat => D.int (0 + (k : Nat))) by funext k; simp]
  rw [e]
  simp
theorem goN_len {rule : List Int} : ∀ (k : Nat) (l : List Int), (goN p rule k l).length = l.length + k
  | 0, l => rfl
  | k + 1, l => by
    unfold goN
    rw [goN_len k]
    simp
    omega
theorem goN_rng {rule : List Int} (hp : 0 < p) : ∀ (k : Nat) (l : List Int), (∀ x ∈ l, 0 ≤ x ∧ x < p) → ∀ x ∈ goN p rule k l, 0 ≤ x ∧ x < p
  | 0, l, h => h
  | k + 1, l, h => by
    unfold goN
    refine goN_rng hp k _ fun x hx => ?_
    rcases List.mem_append.mp hx with hx | hx
    · exact h x hx
    · simp at hx
      subst hx
      exact ⟨Int.emod_nonneg _ (by omega), Int.emod_lt_of_pos _ hp⟩
end
end SR
set_option Elab.async false
set_option linter.all false
set_option maxRecDepth 100000
set_option maxHeartbeats 4000000
/-! PF4: rows gone on -/
namespace SR
open PySem PySem.Spec PyProof.Rows L2 DL LamX
section
variable {S : Sto} {d : D} {p : Int} {n : Nat} {e : En}
theorem goN_add {rule : List Int} : ∀ (i j : Nat) (l : List Int), goN p rule j (goN p rule i l) = goN p rule (i + j) l
  | 0, j, l => by rw [Nat.zero_add]; rfl
  | i + 1, j, l => by
    rw [show i + 1 + j = (i + j) + 1 by omega]
    exact goN_add i j (l ++ [dot rule (l.drop (l.length - rule.length)) % p])
theorem goN_pre {rule : List Int} : ∀ (k : Nat) (l : List Int), ∃ t, goN p rule k l = l ++ t
  | 0, l => ⟨[], by simp [goN]⟩
  | k + 1, l => by
    obtain ⟨t, ht⟩ := goN_pre (rule := rule) k (l ++ [dot rule (l.drop (l.length - rule.length)) % p])
    exact ⟨[dot rule (l.drop (l.length - rule.length)) % p] ++ t, by unfold goN; rw [ht]; simp⟩
theorem goN_at {rule : List Int} : ∀ (k : Nat) (l : List Int) (i : Nat), rule.length ≤ l.length → l.length ≤ i → i < l.length + k → (goN p rule k l).getD i 0 = dot rule (((goN p rule k l).drop (i - rule.length)).take rule.length) % p
  | 0, l, i, _, h1, h2 => by omega
  | k + 1, l, i, h0, h1, h2 => by
    unfold goN
    by_cases hi : i = l.length
    · obtain ⟨t, ht⟩ := goN_pre (p := p) (rule := rule) k (l ++ [dot rule (l.drop (l.length - rule.length)) % p])
      rw [ht, hi]
      have e1 : ((l ++ [dot rule (l.drop (l.length - rule.length)) % p] ++ t).drop (l.length - rule.length)).take rule.length = l.drop (l.length - rule.length) := by
        rw [List.append_assoc, List.drop_append_of_le_length (by omega), List.take_append_of_le_length (by simp; omega), List.take_of_length_le (by simp; omega)]
      rw [e1]
      simp [List.getD_eq_getElem?_getD]
    · exact goN_at k _ i (by simp; omega) (by simp; omega) (by simp; omega)
theorem lots_go {row rule : List Int} {m : Nat} (h : rule.length ≤ row.length) : lots p ((goN p rule m row).drop (row.length - rule.length)) rule = [] := by
  unfold lots lotsN
  rw [List.map_eq_nil_iff, List.filter_eq_nil_iff]
  intro k hk
  have hk : k < ((goN p rule m row).drop (row.length - rule.length)).length - rule.length := List.mem_range.mp hk
  rw [List.length_drop, goN_len] at hk
  have e := goN_at (p := p) m row (row.length + k) h (by omega) (by omega)
  unfold brk
  have e1 : ((goN p rule m row).drop (row.length - rule.length)).getD (rule.length + k) 0 = (goN p rule m row).getD (row.length + k) 0 := by
    rw [List.getD_eq_getElem?_getD, List.getElem?_drop, List.getD_eq_getElem?_getD, show row.length - rule.length + (rule.length + k) = row.length + k by omega]
  rw [e1, e, List.drop_drop, show row.length - rule.length + k = row.length + k - rule.length by omega]
  simp
end
end SR
set_option Elab.async false
set_option linter.all false
set_option maxRecDepth 100000
/-! PS: monic ones, common divisors as functions -/
namespace PP
def monP (p : Int) (a : List Int) : List Int := if a = [] then [] else sclP p a (inv p (cf a (a.length - 1)))
theorem sclP_nz {p : Int} {a : List Int} {v : Int} (h : Pm p) (ha : Ok p a) (hn : a ≠ []) (hv : ¬ cg p v 0) : (sclP p a v).length = a.length := by
  have hp := h.pos
  refine Nat.le_antisymm (can_le _ _ _) (Nat.le_of_not_lt fun hl => ?_)
  have la : 0 < a.length := List.length_pos_iff.mpr hn
  have h2 : cg p (cf (sclP p a v) (a.length - 1)) 0 := by rw [cf_ge (by omega)]; exact cg.refl _ _
  rcases prime_mul h ((sclP_cg (a.length - 1)).symm.trans h2) with h3 | h3
  · exact ha.top_ne hp hn h3
  · exact hv h3
theorem inv_nz {p v : Int} (h : Pm p) (hv : ¬ cg p v 0) : ¬ cg p (inv p v) 0 := fun z => by
  have h1 := inv_mul h hv
  have h2 := ((cg.refl p v).mul z).symm.trans h1
  rw [Int.mul_zero] at h2
  obtain ⟨k, hk⟩ := h2
  have := h.rng
  have hk1 : p * k = -1 := by omega
  have : p ∣ 1 := ⟨-k, by rw [Int.mul_neg, hk1]; rfl⟩
  have := Int.le_of_dvd (by omega) this
  omega
theorem monP_len {p : Int} {a : List Int} (h : Pm p) (ha : Ok p a) : (monP p a).length = a.length := by
  unfold monP
  split
  · rename_i e; rw [e]
  · rename_i hn
    exact sclP_nz h ha hn (inv_nz h (ha.top_ne h.pos hn))
theorem monP_cg {p : Int} {a : List Int} (hn : a ≠ []) (i : Nat) : cg p (cf (monP p a) i) (cf a i * inv p (cf a (a.length - 1))) := by
  unfold monP
  rw [if_neg hn]
  exact sclP_cg i
theorem mon_monP {p : Int} {a : List Int} (h : Pm p) (ha : Ok p a) : Mon p (monP p a) := by
  have hp := h.pos
  by_cases hn : a = []
  · subst hn
    unfold monP
    rw [if_pos rfl]
    exact ⟨.nil, fun z => absurd rfl z⟩
  · have ok : Ok p (monP p a) := by
      unfold monP
      rw [if_neg hn]
      exact ok_sclP hp
    refine ⟨ok, fun _ => ?_⟩
    rw [monP_len h ha]
    exact ((monP_cg hn _).trans (inv_mul h (ha.top_ne hp hn))).eq (cf_rng hp ok.rng _) ⟨by omega, by have := h.rng; omega⟩
theorem lm_single (x : Int) (f : Ser) (i : Nat) : lm [x] f i = x * f i := by
  unfold lm
  simp only [lm]
  cases i <;> simp [sh]
theorem monP_dvd {p : Int} {a : List Int} (h : Pm p) (ha : Ok p a) : Dvd p (monP p a) a ∧ Dvd p a (monP p a) := by
  by_cases hn : a = []
  · subst hn
    unfold monP
    rw [if_pos rfl]
    exact ⟨.refl, .refl⟩
  · refine ⟨⟨[cf a (a.length - 1)], fun i => ?_⟩, ⟨[inv p (cf a (a.length - 1))], fun i => ?_⟩⟩
    · rw [lm_single]
      have h1 := (cg.refl p (cf a (a.length - 1))).mul (monP_cg (p := p) hn i)
      have h2 := (cg.refl p (cf a i)).mul (inv_mul h (ha.top_ne h.pos hn))
      refine ((h1.trans ((cg.of_eq ?_).trans h2)).trans (cg.of_eq (Int.mul_one _))).symm
      grind
    · rw [lm_single]
      exact (monP_cg hn i).trans (cg.of_eq (Int.mul_comm _ _))
open Classical in
noncomputable def gcdP (p : Int) (a b : List Int) : List Int := if h : ∃ g, IsG p a b g then h.choose else []
theorem IsG.is {p : Int} {a b g : List Int} (h : Pm p) (x : IsG p a b g) : gcdP p a b = g := by
  have ex : ∃ g, IsG p a b g := ⟨g, x⟩
  unfold gcdP
  rw [dif_pos ex]
  exact IsG.uniq h ex.choose_spec x
theorem IsG.fn {p : Int} {a b g : List Int} (h : Pm p) (x : IsG p a b g) : IsG p a b (gcdP p a b) := by rw [x.is h]; exact x
/-- the end of Euclid's way -/
theorem isG_nil {p : Int} {a : List Int} (h : Pm p) (ha : Ok p a) : IsG p a [] (monP p a) :=
  ⟨mon_monP h ha, (monP_dvd h ha).1, .nil, fun c h1 _ => h1.trans (monP_dvd h ha).2⟩
theorem isG_mod {p : Int} {a d g : List Int} (h : Dv p a d (quoP p a d) (remP p a d)) (x : IsG p d (remP p a d) g) : IsG p a d g := IsG.step h.eq x
theorem Mon.eq_mon {p : Int} {a : List Int} (h : Pm p) (x : Mon p a) : monP p a = a := dvd_mon_eq h (mon_monP h x.1) x (monP_dvd h x.1).1 (monP_dvd h x.1).2
/-- common divisors exist -/
theorem dv_ex {p : Int} {d : List Int} (h : Ds p d) : ∀ (n : Nat) (a : List Int), a.length ≤ n → ∃ q r, Dv p a d q r
  | n, a, hn => by
    have hp := h.m.pos
    have dl : 0 < d.length := List.length_pos_iff.mpr h.ne
    by_cases hs : a.length < d.length
    · exact ⟨[], can p a.length (cf a), .nil, ok_can hp _ _, Nat.lt_of_le_of_lt (can_le _ _ _) hs, fun i => by
        simp only [lm]
        exact ((can_cg (fun i hi => by rw [cf_ge hi]; exact cg.refl _ _) i).symm.trans (cg.of_eq (by omega)))⟩
    · match n, hn with
      | 0, hn => omega
      | n + 1, hn =>
        -- take the highest term away
        obtain ⟨k, hk⟩ : ∃ k, k = a.length - d.length := ⟨_, rfl⟩
        obtain ⟨w, hw⟩ : ∃ w, w = cf a (a.length - 1) * inv p (cf d (d.length - 1)) := ⟨_, rfl⟩
        obtain ⟨b, hb⟩ : ∃ b, b = (List.range (a.length - 1)).map fun i => cf a i - if k ≤ i then w * cf d (i - k) else 0 := ⟨_, rfl⟩
        obtain ⟨q, r, x⟩ := dv_ex h n b (by rw [hb]; simp; omega)
        have eb : ∀ i, cg p (cf b i) (cf a i - if k ≤ i then w * cf d (i - k) else 0) := fun i => by
          rw [hb, cf_map_range (fun i => cf a i - if k ≤ i then w * cf d (i - k) else 0)]
          split
          · exact cg.refl _ _
          · by_cases hi : i = a.length - 1
            · rw [if_pos (by omega), hi, show a.length - 1 - k = d.length - 1 by omega, hw]
              have h2 := (cg.refl p (cf a (a.length - 1))).mul (inv_mul h.m h.top)
              have h3 := (cg.refl p (cf a (a.length - 1))).sub h2
              refine (cg.of_eq ?_).trans (h3.symm.trans (cg.of_eq ?_))
              · omega
              · grind
            · rw [cf_ge (a := a) (by omega), cf_ge (a := d) (i := i - k) (by omega)]
              exact cg.of_eq (by simp)
        refine ⟨can p (max q.length (k + 1)) (fun i => cf q i + w * mono k i), r, ⟨ok_can hp _ _, x.okr, x.len, fun i => ?_⟩⟩
        have e1 : cg p (lm (can p (max q.length (k + 1)) (fun i => cf q i + w * mono k i)) (cf d) i) (lm q (cf d) i + if k ≤ i then w * cf d (i - k) else 0) := by
          rw [lm_swap]
          refine (lm_cg (fun j => can_cg (fun i hi => by
            rw [cf_ge (a := q) (by omega)]
            unfold mono
            rw [if_neg (by omega)]
            exact cg.of_eq (by simp)) j) d i).trans (cg.of_eq ?_)
          rw [lm_add, lm_scl, lm_mono, lm_swap d q]
          split <;> simp
        have e2 := (e1.add (cg.refl p (cf r i)))
        have e3 := ((eb i).symm.trans (x.eq i)).add (cg.refl p (if k ≤ i then w * cf d (i - k) else 0))
        exact (cg.of_eq (by omega)).trans (e3.trans ((cg.of_eq (by omega)).trans e2.symm))
theorem dv_fn {p : Int} {a d : List Int} (h : Ds p d) : Dv p a d (quoP p a d) (remP p a d) := by
  obtain ⟨q, r, x⟩ := dv_ex h a.length a (Nat.le_refl _)
  exact x.fn h
theorem isG_ex {p : Int} (h : Pm p) : ∀ (n : Nat) (a b : List Int), b.length ≤ n → Ok p a → Ok p b → ∃ g, IsG p a b g
  | n, a, b, hn, ha, hb => by
    by_cases hz : b = []
    · subst hz
      exact ⟨_, isG_nil h ha⟩
    · have dv := dv_fn (a := a) ⟨h, hb, hz⟩
      have lb : 0 < b.length := List.length_pos_iff.mpr hz
      have := dv.len
      match n, hn with
      | 0, hn => omega
      | n + 1, hn =>
        obtain ⟨g, hg⟩ := isG_ex h n b (remP p a b) (by omega) hb dv.okr
        exact ⟨g, isG_mod dv hg⟩
theorem isG_fn {p : Int} (h : Pm p) {a b : List Int} (ha : Ok p a) (hb : Ok p b) : IsG p a b (gcdP p a b) := by
  obtain ⟨g, x⟩ := isG_ex h b.length a b (Nat.le_refl _) ha hb
  exact x.fn h
end PP
set_option Elab.async false
set_option linter.all false
set_option maxRecDepth 100000
/-! PG1: a polynomial along a row -/
namespace PP
section
variable {p : Int}
/-- the values from place n on, times the polynomial's, together -/
def lam : List Int → (Nat → Int) → Nat → Int
  | [], _, _ => 0
  | x :: a, s, n => x * s n + lam a s (n + 1)
theorem lam_sc {s t : Nat → Int} (h : ∀ i, cg p (s i) (t i)) : ∀ (a : List Int) (n : Nat), cg p (lam a s n) (lam a t n)
  | [], n => cg.refl _ _
  | x :: a, n => ((cg.refl p x).mul (h n)).add (lam_sc h a (n + 1))
theorem lam_zl {s : Nat → Int} : ∀ (a : List Int) (n : Nat), (∀ i, cg p (cf a i) 0) → cg p (lam a s n) 0
  | [], n, _ => cg.refl _ _
  | x :: a, n, h => by
    have h0 := (h 0).mul (cg.refl p (s n))
    have h1 := lam_zl (s := s) a (n + 1) fun i => h (i + 1)
    have := h0.add h1
    rw [Int.zero_mul, Int.zero_add] at this
    exact this
theorem lam_cg {s : Nat → Int} : ∀ (a b : List Int) (n : Nat), (∀ i, cg p (cf a i) (cf b i)) → cg p (lam a s n) (lam b s n)
  | [], b, n, h => (lam_zl b n fun i => by have := h i; rw [cf_nil] at this; exact this.symm).symm
  | x :: a, [], n, h => lam_zl (x :: a) n fun i => by have := h i; rw [cf_nil] at this; exact this
  | x :: a, y :: b, n, h => ((h 0).mul (cg.refl p (s n))).add (lam_cg a b (n + 1) fun i => h (i + 1))
theorem lam_addL {s : Nat → Int} : ∀ (a b : List Int) (n : Nat), lam (addL a b) s n = lam a s n + lam b s n
  | [], b, n => by simp [addL, lam]
  | x :: a, [], n => by simp [addL, lam]
  | x :: a, y :: b, n => by
    simp only [addL, lam, lam_addL a b]
    grind
theorem lam_sclL {s : Nat → Int} (c : Int) : ∀ (a : List Int) (n : Nat), lam (sclL c a) s n = c * lam a s n
  | [], n => by simp [sclL, lam]
  | x :: a, n => by
    have := lam_sclL (s := s) c a (n + 1)
    unfold sclL at this ⊢
    simp only [List.map_cons, lam, this]
    grind
theorem lam_mulL {s : Nat → Int} : ∀ (a b : List Int) (n : Nat), lam (mulL a b) s n = lam a (lam b s) n
  | [], b, n => rfl
  | x :: a, b, n => by
    unfold mulL
    rw [lam_addL, lam_sclL]
    simp only [lam, lam_mulL a b]
    grind
theorem lam_sh {s : Nat → Int} (k : Nat) : ∀ (a : List Int) (n : Nat), lam a (fun i => s (i + k)) n = lam a s (n + k)
  | [], n => rfl
  | x :: a, n => by
    simp only [lam, lam_sh k a]
    rw [show n + 1 + k = n + k + 1 by omega]
theorem lam_zs {s : Nat → Int} (h : ∀ i, cg p (s i) 0) : ∀ (a : List Int) (n : Nat), cg p (lam a s n) 0
  | [], n => cg.refl _ _
  | x :: a, n => by
    have := ((cg.refl p x).mul (h n)).add (lam_zs h a (n + 1))
    rw [Int.mul_zero, Int.zero_add] at this
    exact this
theorem lam_mulP {s : Nat → Int} (a b : List Int) (n : Nat) : cg p (lam (mulP p a b) s n) (lam a (lam b s) n) := by
  rw [← lam_mulL]
  exact lam_cg _ _ n fun i => by rw [cf_mulL]; exact mulP_cg i
theorem lam_dv {s : Nat → Int} {a d q r : List Int} (h : Dv p a d q r) (hs : ∀ n, cg p (lam d s n) 0) (n : Nat) : cg p (lam a s n) (lam r s n) := by
  have h1 : cg p (lam a s n) (lam (addL (mulL q d) r) s n) := lam_cg _ _ n fun i => by rw [cf_addL, cf_mulL]; exact h.eq i
  rw [lam_addL, lam_mulL] at h1
  have := h1.trans ((lam_zs hs q n).add (cg.refl p _))
  rw [Int.zero_add] at this
  exact this
theorem lam_append {s : Nat → Int} : ∀ (a b : List Int) (n : Nat), lam (a ++ b) s n = lam a s n + lam b s (n + a.length)
  | [], b, n => by simp [lam]
  | x :: a, b, n => by
    simp only [List.cons_append, lam, lam_append a b, List.length_cons]
    rw [show n + 1 + a.length = n + (a.length + 1) by omega]
    grind
/-- the polynomial leads k places on -/
def Act (p : Int) (s : Nat → Int) (a : List Int) (k : Nat) : Prop := ∀ n, cg p (lam a s n) (s (n + k))
variable {s : Nat → Int} {a b d : List Int} {i j : Nat}
theorem Act.one : Act p s [1] 0 := fun n => cg.of_eq (by simp [lam])
theorem Act.x : Act p s [0, 1] 1 := fun n => cg.of_eq (by simp [lam])
theorem Act.mulP (ha : Act p s a i) (hb : Act p s b j) : Act p s (mulP p a b) (i + j) := fun n => by
  refine (lam_mulP a b n).trans ((lam_sc hb a n).trans ?_)
  rw [lam_sh j a n, show n + (i + j) = n + j + i by omega]
  exact ha _
theorem Act.rem {q r : List Int} (ha : Act p s a i) (h : Dv p a d q r) (hs : ∀ n, cg p (lam d s n) 0) : Act p s r i := fun n => (lam_dv h hs n).symm.trans (ha n)
end
end PP
set_option Elab.async false
set_option linter.all false
set_option maxRecDepth 100000
set_option maxHeartbeats 4000000
/-! PG2: a register's row -/
namespace SR
open PySem PySem.Spec PyProof.Rows L2 DL LamX PP
section
variable {S : Sto} {p : Int} {n : Nat} {e : En} {rule start : List Int}
theorem dot_lam : ∀ (a l : List Int) (s : Nat → Int) (n : Nat), (∀ i, i < a.length → i < l.length → cf l i = s (n + i)) → a.length ≤ l.length → dot a l = lam a s n
  | [], l, s, n, _, _ => by simp [dot, prodL, lam]
  | x :: a, [], s, n, _, h => by simp at h
  | x :: a, y :: l, s, n, h, hl => by
    have ih := dot_lam a l s (n + 1) (fun i h1 h2 => by
      have := h (i + 1) (by simpa using h1) (by simpa using h2)
      rw [cf_succ] at this
      rw [this, show n + (i + 1) = n + 1 + i by omega]) (by simpa using hl)
    have h0 := h 0 (by simp) (by simp)
    rw [cf_zero, Nat.add_zero] at h0
    unfold dot prodL at ih ⊢
    simp [lam, ih, h0]
/-- the row's value at a place -/
def sq (p : Int) (rule start : List Int) (i : Nat) : Int := cf (goN p rule (i + 1) start) i
theorem goN_cf {k m i : Nat} {l : List Int} (h : i < l.length + k) (h2 : k ≤ m) : cf (goN p rule m l) i = cf (goN p rule k l) i := by
  obtain ⟨t, ht⟩ := goN_pre (p := p) (rule := rule) (m - k) (goN p rule k l)
  rw [goN_add, show k + (m - k) = m by omega] at ht
  rw [ht]
  unfold cf
  rw [List.getD_eq_getElem?_getD, List.getD_eq_getElem?_getD, List.getElem?_append_left (by rw [goN_len]; exact h)]
theorem sq_go {m i : Nat} (h : i < start.length + m) : cf (goN p rule m start) i = sq p rule start i := by
  unfold sq
  by_cases hm : m ≤ i + 1
  · exact (goN_cf h hm).symm
  · exact goN_cf (k := i + 1) (by omega) (by omega)
theorem sq_start {i : Nat} (h : i < start.length) : sq p rule start i = cf start i := (sq_go (m := 0) (by omega)).symm
theorem sq_rng (hp : 0 < p) (h : ∀ x ∈ start, 0 ≤ x ∧ x < p) (i : Nat) : 0 ≤ sq p rule start i ∧ sq p rule start i < p := cf_rng hp (goN_rng hp (i + 1) start h) i
theorem sq_next (hl : rule.length = start.length) (n : Nat) : sq p rule start (n + rule.length) = lam rule (sq p rule start) n % p := by
  have hh : rule.length ≤ start.length := by omega
  have h := goN_at (p := p) (rule := rule) (n + rule.length + 1) start (n + rule.length) hh (by omega) (by omega)
  rw [show n + rule.length - rule.length = n by omega] at h
  refine Eq.trans h (congrArg (· % p) ?_)
  refine dot_lam _ _ _ n (fun i h1 h2 => ?_) ?_
  · rw [← sq_go (m := n + rule.length + 1) (by omega)]
    unfold cf
    rw [List.getD_eq_getElem?_getD, List.getD_eq_getElem?_getD, List.getElem?_take_of_lt h1, List.getElem?_drop]
  · simp [goN_len]
    omega
theorem lam_neg {s : Nat → Int} : ∀ (l : List Int) (n : Nat), cg p (lam (l.map fun x => (0 - x) % p) s n) (- lam l s n)
  | [], n => cg.of_eq (by simp [lam])
  | x :: l, n => by
    have := ((cg.mod p (0 - x)).mul (cg.refl p (s n))).add (lam_neg (s := s) l (n + 1))
    simp only [List.map_cons, lam]
    exact this.trans (cg.of_eq (by grind))
/-- the row keeps its polynomial -/
theorem sq_poly (hl : rule.length = start.length) (n : Nat) : cg p (lam ((rule.map fun x => (0 - x) % p) ++ [1]) (sq p rule start) n) 0 := by
  rw [lam_append]
  simp only [lam, List.length_map]
  have h1 := lam_neg (p := p) (s := sq p rule start) rule n
  have h2 := cg.mod p (lam rule (sq p rule start) n)
  rw [← sq_next hl n] at h2
  have := h1.add h2
  refine (cg.of_eq ?_).trans (this.trans (cg.of_eq ?_))
  · grind
  · grind
end
end SR
set_option Elab.async false
set_option linter.all false
set_option maxRecDepth 100000
set_option maxHeartbeats 4000000
namespace SR
open PySem PySem.Spec PyProof.Rows L2 DL LamX
section
variable {S : Sto} {d : D} {p : Int} {n : Nat} {e : En}
theorem is_whole (h : Pl d) : f_is_whole [d] S = .ok (.bl (isIntD d)) S := by
  unfold f_is_whole t_is_whole
  simp [h]
  cases d <;> first | exact absurd rfl h | simp [isIntD, isBlD]
theorem is_from {a b : Int} (h : Pl d) : f_is_from [d, .int a, .int b] S = .ok (.bl (fromD d a b)) S := by
  unfold f_is_from t_is_from
  simp [is_whole h]
  cases d <;> first | exact absurd rfl h | simp [isIntD, fromD]
  rename_i i
  by_cases h1 : a ≤ i <;> simp [h1]
theorem is_below {m : Int} (h : Pl d) : f_is_below [d, .int m] S = .ok (.bl (fromD d 0 (m - 1))) S := by
  unfold f_is_below t_is_below
  simp [is_from h]
theorem is_value (h : Pl d) : f_is_value [.int p, d] S = .ok (.bl (fromD d 0 (p - 1))) S := by
  unfold f_is_value t_is_value
  simp [is_below h]
end
end SR
set_option Elab.async false
set_option linter.all false
set_option maxRecDepth 100000
set_option maxHeartbeats 4000000
namespace SR
open PySem PySem.Spec PyProof.Rows L2 DL LamX
section
variable {S : Sto} {d : D} {p : Int} {n : Nat} {e : En}
def goodM (d : D) : Bool := match d with
  | .int i => decide (i = 2 ∨ i = 3 ∨ i = 5 ∨ i = 7)
  | _ => false
theorem m_at0 : dIx S (.tup [(.int 2), (.int 3), (.int 5), (.int 7)]) (.int 0) = some (.int 2) := rfl
theorem m_at1 : dIx S (.tup [(.int 2), (.int 3), (.int 5), (.int 7)]) (.int (-1)) = some (.int 7) := rfl
theorem m_in {i : Int} (h2 : 2 ≤ i) (h7 : i ≤ 7) : dIn true S (.int i) (.tup [(.int 2), (.int 3), (.int 5), (.int 7)]) = some (.bl (!goodM (.int i))) := by
  have : i = 2 ∨ i = 3 ∨ i = 4 ∨ i = 5 ∨ i = 6 ∨ i = 7 := by omega
  rcases this with rfl | rfl | rfl | rfl | rfl | rfl <;> rfl
theorem check_modulus (h : Pl d) : f_check_modulus [d] S = if goodM d = true then .ok .non S else .exn ("InvalidNumber" : Str) (some (("given" : Str), d)) S := by
  unfold f_check_modulus t_check_modulus
  have e1 : dNeg S (.int 1) = some (.int (-1)) := rfl
  simp [m_at0, e1, m_at1, is_from h]
  cases hf : fromD d 2 7 with
  | false =>
    have hg : goodM d = false := by
      cases d <;> try rfl
      rename_i i
      simp [fromD] at hf
      simp [goodM]
      omega
    simp [hg]
  | true =>
    cases d <;> try (simp [fromD] at hf; done)
    rename_i i
    simp [fromD] at hf
    simp [m_in hf.1 hf.2]
    cases goodM (.int i) <;> simp
theorem goodM_p (h : p = 2 ∨ p = 3 ∨ p = 5 ∨ p = 7) : goodM (.int p) = true := by simp [goodM, h]
end
end SR
set_option Elab.async false
set_option linter.all false
set_option maxRecDepth 100000
set_option maxHeartbeats 4000000
namespace SR
open PySem PySem.Spec PyProof.Rows L2 DL LamX
section
variable {S : Sto} {d : D} {p : Int} {n : Nat} {e : En}
theorem check_number {a b : Int} (h : Pl d) : f_check_number [d, .int a, .int b] S = if fromD d a b = true then .ok .non S else .exn ("InvalidNumber" : Str) (some (("given" : Str), d)) S := by
  unfold f_check_number t_check_number
  simp [is_from h]
  cases fromD d a b <;> simp
end
end SR
set_option Elab.async false
set_option linter.all false
set_option maxRecDepth 100000
set_option maxHeartbeats 4000000
namespace SR
open PySem PySem.Spec PyProof.Rows L2 DL LamX
section
variable {S : Sto} {d : D} {p : Int} {n : Nat} {e : En}
theorem wrong_in {most : Int} (hd : PlL d) : f_wrong_in_values [.int p, .int most, d] S = .ok (.lst (illD p most d).toList) S := by
  unfold f_wrong_in_values t_wrong_in_values
  have ha : ∀ (x d2 : D) (S : Sto), Pl d2 → lamF [.val (.int p), .val (.int most), .val d, .hid, .hid] [3, 4] (mCall 2 0 [0, 1] 2 f_is_value (mCons (mVar 0) (mCons (mVar 4) (mNil))) (mNil)) [x, d2] S = .ok (.bl (fromD d2 0 (p - 1))) S := fun x d2 S h => by
    have e : setEn (hideE [Slot.val (D.int p), Slot.val (D.int most), Slot.val d, Slot.hid, Slot.hid]) [3, 4] [x, d2] = [.val (.int p), .val (.int most), .val d, .val x, .val d2] := rfl
    unfold lamF
    rw [e, ev_call]
    simp [is_value h]
  simp
  unfold f_wrong_at
  cases d with
  | tup xs =>
    simp [illD]
    rw [wrong_l ha xs 0 S hd]
    rw [if_neg (by omega)]
    rfl
  | _ => first | exact absurd rfl hd | simp [illD, tyName]
end
end SR
set_option Elab.async false
set_option linter.all false
set_option maxRecDepth 100000
set_option maxHeartbeats 4000000
namespace SR
open PySem PySem.Spec PyProof.Rows L2 DL LamX
section
variable {S : Sto} {d : D} {p : Int} {n : Nat} {e : En}
theorem check_row (hd : PlL d) : f_check_row [.int p, d] S = match illD p 60 d with | none => .ok .non S | some i => .exn ("InvalidRow" : Str) (some (("index" : Str), i)) S := by
  unfold f_check_row t_check_row
  simp [wrong_in hd]
  cases illD p 60 d with
  | none => simp [itemsL]
  | some i => simp [itemsL, loopS]
end
end SR
set_option Elab.async false
set_option linter.all false
set_option maxRecDepth 100000
set_option maxHeartbeats 4000000
namespace SR
open PySem PySem.Spec PyProof.Rows L2 DL LamX
section
variable {S : Sto} {d : D} {p : Int} {n : Nat} {e : En}
theorem check_rule_of {m : Int} (hd : PlL d) : f_check_rule_of [.int p, d, .int m] S = match illD p m d with | none => .ok .non S | some i => .exn ("InvalidRule" : Str) (some (("index" : Str), i)) S := by
  unfold f_check_rule_of t_check_rule_of
  simp [wrong_in hd]
  cases illD p m d with
  | none => simp [itemsL]
  | some i => simp [itemsL, loopS]
theorem check_rule (hd : PlL d) : f_check_rule [.int p, d] S = match illD p 60 d with | none => .ok .non S | some i => .exn ("InvalidRule" : Str) (some (("index" : Str), i)) S := by
  unfold f_check_rule t_check_rule
  simp [check_rule_of hd]
  cases illD p 60 d <;> simp
end
end SR
set_option Elab.async false
set_option linter.all false
set_option maxRecDepth 100000
set_option maxHeartbeats 4000000
/-! PF2: rows, told, keeps, gone_on -/
namespace SR
open PySem PySem.Spec PyProof.Rows L2 DL LamX
section
variable {S : Sto} {d : D} {p : Int} {n : Nat} {e : En}
/-- a row that the checks let through -/
structure Row (p : Int) (l : List Int) : Prop where
  len : l.length ≤ 60
  rng : ∀ x ∈ l, 0 ≤ x ∧ x < p
theorem ill_row {l : List Int} : ∀ i : Nat, (i + l.length ≤ 60) → (∀ x ∈ l, 0 ≤ x ∧ x < p) → illL p 60 i (l.map D.int) = none := by
  induction l with
  | nil => intros; rfl
  | cons x l ih =>
    intro i h1 h2
    have hx := h2 x (by simp)
    simp at h1
    rw [List.map_cons]
    unfold illL
    have h3 : fromD (.int x) 0 (p - 1) = true := by simp [fromD]; omega
    rw [if_neg (by rw [h3]; simp; omega)]
    exact ih (i + 1) (by omega) fun y hy => h2 y (by simp [hy])
theorem Row.ill {l : List Int} (h : Row p l) : illD p 60 (tI l) = none := by
  unfold illD
  simp
  exact ill_row 0 (by have := h.len; omega) h.rng
/-- what the checks tell: the first fault -/
def tell (m row rule : D) : Option (Str × Pay) := if goodM m = true then (match m with
    | .int p => (match illD p 60 row with
      | some i => some (("InvalidRow" : Str), some (("index" : Str), i))
      | none => (illD p 60 rule).map fun i => (("InvalidRule" : Str), some (("index" : Str), i)))
    | _ => none) else some (("InvalidNumber" : Str), some (("given" : Str), m))
def okX (o : Option (Str × Pay)) (S : Sto) : Res D := match o with
  | none => .ok .non S
  | some (c, q) => .exn c q S
theorem check_told {m row rule : D} (hm : Pl m) (hr : goodM m = true → PlL row) (hl : goodM m = true → PlL rule) : f_check_told [m, row, rule] S = okX (tell m row rule) S := by
  unfold f_check_told t_check_told tell
  simp [check_modulus hm]
  cases hg : goodM m with
  | false => simp [okX]
  | true =>
    cases m <;> try (simp [goodM] at hg; done)
    rename_i p
    simp [check_row (hr hg)]
    cases illD p 60 row with
    | some i => simp [okX]
    | none =>
      simp [check_rule (hl hg)]
      cases illD p 60 rule <;> simp [okX]
structure Gp (p : Int) (row rule : List Int) : Prop where
  m : p = 2 ∨ p = 3 ∨ p = 5 ∨ p = 7
  row : Row p row
  rule : Row p rule
theorem Gp.pos {row rule : List Int} (g : Gp p row rule) : 0 < p := by have := g.m; omega
theorem Row.sm {l : List Int} (h : Row p l) (hp : p ≤ 7) : Bd l := fun x hx => by have := h.rng x hx; omega
theorem Gp.sm {row rule : List Int} (g : Gp p row rule) : Bd rule := g.rule.sm (by have := g.m; omega)
theorem Gp.l1 {row rule : List Int} (g : Gp p row rule) : rule.length ≤ 1000 := by have := g.rule.len; omega
theorem Gp.l2 {row rule : List Int} (g : Gp p row rule) : row.length ≤ 1000 := by have := g.row.len; omega
theorem Gp.tell {row rule : List Int} (g : Gp p row rule) : tell (.int p) (tI row) (tI rule) = none := by
  unfold SR.tell
  rw [if_pos (goodM_p g.m)]
  simp only [g.row.ill, g.rule.ill]
  rfl
theorem told_ok {row rule : List Int} (g : Gp p row rule) : f_check_told [.int p, tI row, tI rule] S = .ok .non S := by
  rw [check_told (fun z => by cases z) (fun _ => plL_tI) (fun _ => plL_tI), g.tell]
  rfl
theorem keeps_ok {row rule : List Int} (g : Gp p row rule) : f_keeps [.int p, tI row, tI rule] S = .ok (.bl (decide (lots p row rule = []))) S := by
  unfold f_keeps t_keeps
  simp [told_ok g, keeps_by g.pos g.sm g.l1 g.l2]
theorem gone_ok {row rule : List Int} {many : Nat} (g : Gp p row rule) (hm : many ≤ 60) : f_gone_on [.int p, tI row, tI rule, .int many] S = if row.length < rule.length ∨ 60 < row.length + many then .exn ("Over" : Str) none S else .ok (tI (goN p rule many row)) S := by
  unfold f_gone_on t_gone_on
  have hf : fromD (.int many) 0 60 = true := by simp [fromD]; omega
  have h3 : 0 < p := g.pos
  simp [told_ok g, check_number (d := .int many) (fun z => by cases z), hf]
  by_cases h1 : row.length < rule.length
  · simp [h1]
  · by_cases h2 : 60 < row.length + many
    · have : (60 : Int) < (row.length : Int) + (many : Int) := by omega
      simp [h1, h2, this]
    · have : ¬ (60 : Int) < (row.length : Int) + (many : Int) := by omega
      simp [h1, h2, this]
      rw [gone_by h3 g.sm (by omega) (by omega)]
      simp
/-- the refusals -/
theorem keeps_bad {m row rule : D} {c : Str} {q : Pay} (hm : Pl m) (hr : goodM m = true → PlL row) (hl : goodM m = true → PlL rule) (h : tell m row rule = some (c, q)) : f_keeps [m, row, rule] S = .exn c q S := by
  unfold f_keeps t_keeps
  simp [check_told hm hr hl, h, okX]
theorem gone_bad {m row rule many : D} {c : Str} {q : Pay} (hm : Pl m) (hr : goodM m = true → PlL row) (hl : goodM m = true → PlL rule) (h : tell m row rule = some (c, q)) : f_gone_on [m, row, rule, many] S = .exn c q S := by
  unfold f_gone_on t_gone_on
  simp [check_told hm hr hl, h, okX]
theorem gone_bad_n {row rule : List Int} {many : D} (g : Gp p row rule) (hm : Pl many) (hf : fromD many 0 60 = false) : f_gone_on [.int p, tI row, tI rule, many] S = .exn ("InvalidNumber" : Str) (some (("given" : Str), many)) S := by
  unfold f_gone_on t_gone_on
  simp [told_ok g, check_number hm, hf]
end
end SR
set_option Elab.async false
set_option linter.all false
set_option maxRecDepth 100000
set_option maxHeartbeats 4000000
/-! PG3: rests, a register's values and states far off -/
namespace SR
open PySem PySem.Spec PyProof.Rows L2 DL LamX PP
section
variable {S : Sto} {p : Int} {n : Nat} {e : En} {a b d rule start : List Int}
@[simp] theorem ix2_1 {x y : D} : dIx S (.tup [x, y]) (.int 1) = some y := rfl
theorem times_rest (h : Ds p d) (la : a.length ≤ 100) (lb : b.length ≤ 100) (ld : d.length ≤ 400) (ra : ∀ x ∈ a, 0 ≤ x ∧ x < p) : f_times_rest [.int p, tI a, tI b, tI d] S = .ok (tI (remP p (mulP p a b) d)) S ∧ Dv p (mulP p a b) d (quoP p (mulP p a b) d) (remP p (mulP p a b) d) := by
  have hp := h.m.pos
  have lm : (mulP p a b).length ≤ 400 := by have := can_le p (a.length + b.length) (lm a (cf b)); unfold mulP; omega
  have ok := ok_mulP (p := p) (a := a) (b := b) hp
  refine ⟨?_, (divided_by (S := S) h lm ld ok.1).2⟩
  unfold f_times_rest t_times_rest
  have e1 := fun S : Sto => times_by (S := S) hp h.m.rng.2 (show a.length ≤ 400 by omega) (show b.length ≤ 400 by omega) ra
  have e2 := fun S : Sto => (divided_by (S := S) h lm ld ok.1).1
  simp [e1, e2]
/-- a rest that leads k places on -/
structure Rst (p : Int) (s : Nat → Int) (d : List Int) (k : Nat) (r : List Int) : Prop where
  ok : Ok p r
  len : r.length < d.length
  act : Act p s r k
variable {s : Nat → Int} {i j k : Nat} {r : List Int}
theorem Rst.of (ha : Act p s a k) (hs : ∀ n, cg p (lam d s n) 0) (h : Dv p a d (quoP p a d) r) : Rst p s d k r := ⟨h.okr, h.len, ha.rem h hs⟩
theorem rst_times (h : Ds p d) (ld : d.length ≤ 100) (hs : ∀ n, cg p (lam d s n) 0) (ha : Rst p s d i a) (hb : Act p s b j) (lb : b.length ≤ 100) : f_times_rest [.int p, tI a, tI b, tI d] S = .ok (tI (remP p (mulP p a b) d)) S ∧ Rst p s d (i + j) (remP p (mulP p a b) d) := by
  have := times_rest (S := S) h (by have := ha.len; omega) lb (by omega) ha.ok.1 (b := b)
  exact ⟨this.1, Rst.of (ha.act.mulP hb) hs this.2⟩
theorem rest_power (h : Ds p d) (ld : d.length ≤ 100) (hs : ∀ n, cg p (lam d s n) 0) (ha : Act p s a j) (ra : ∀ x ∈ a, 0 ≤ x ∧ x < p) (la : a.length ≤ 100) (hk : k < 2 ^ 64) :
    ∃ r, f_rest_power [.int p, tI a, .int (k : Nat), tI d] S = .ok (tI r) S ∧ Rst p s d (j * k) r := by
  have hp := h.m.pos
  have hp7 := h.m.rng
  have r1 : ∀ x ∈ [(1 : Int)], 0 ≤ x ∧ x < p := fun x hx => by simp at hx; omega
  have e1 := fun S : Sto => divided_by (S := S) h (a := [1]) (by simp) (by omega) r1
  have e2 := fun S : Sto => divided_by (S := S) h (a := a) (by omega) (by omega) ra
  have R1 : Rst p s d 0 (remP p [1] d) := Rst.of Act.one hs (e1 S).2
  have R2 : Rst p s d j (remP p a d) := Rst.of ha hs (e2 S).2
  have e1 : ∀ S, f_divided_by [.int p, .tup [.int 1], tI d] S = .ok (.tup [tI (quoP p [1] d), tI (remP p [1] d)]) S := fun S => (e1 S).1
  have e2 := fun S => (e2 S).1
  unfold f_rest_power t_rest_power
  simp [e1, e2]
  generalize hr : whileS _ _ _ _ _ = r
  obtain ⟨e', rfl, f, q, rfl, Rf⟩ := while_of hr 64 (fun m e => ∃ (k' acc P : Nat) (f q : List Int), e = [.val (.int p), .val (tI a), .val (.int (k' : Nat)), .val (tI d), .val (tI f), .val (tI q)] ∧ k' < 2 ^ m ∧ Rst p s d acc f ∧ Rst p s d P q ∧ acc + P * k' = j * k)
    (fun e => ∃ (f q : List Int), e = [.val (.int p), .val (tI a), .val (.int 0), .val (tI d), .val (tI f), .val (tI q)] ∧ Rst p s d (j * k) f) (by omega)
    ⟨k, 0, j, _, _, rfl, hk, R1, R2, by omega⟩ (fun m e ⟨k', acc, P, f, q, he, hk, Rf, Rq, hT⟩ => by
      subst he
      by_cases h0 : k' = 0
      · left
        subst h0
        refine ⟨by simp, f, q, rfl, ?_⟩
        rw [Nat.mul_zero, Nat.add_zero] at hT
        rw [← hT]
        exact Rf
      · right
        have hm : 0 < m := by
          rcases Nat.eq_zero_or_pos m with z | z
          · subst z; omega
          · exact z
        have hpos : (0 : Int) < (k' : Int) := by omega
        obtain ⟨m, rfl⟩ : ∃ m', m = m' + 1 := ⟨m - 1, by omega⟩
        have hk2 : k' / 2 < 2 ^ m := by rw [Nat.pow_succ] at hk; omega
        have lq := Rq.len
        have lf := Rf.len
        have t1 := fun S : Sto => rst_times (S := S) h ld hs Rf Rq.act (by omega)
        have t2 := fun S : Sto => rst_times (S := S) h ld hs Rq Rq.act (by omega)
        have R3 := (t1 S).2
        have R4 := (t2 S).2
        have t1 := fun S => (t1 S).1
        have t2 := fun S => (t2 S).1
        have dv : ∀ S : Sto, dDiv S (.int (k' : Int)) (.int 2) = some (.int ((k' / 2 : Nat) : Int)) := fun S => by
          rw [dDiv_int (by omega), show (k' : Int) / 2 = ((k' / 2 : Nat) : Int) by omega]
        have md : ∀ S : Sto, dMod S (.int (k' : Int)) (.int 2) = some (.int ((k' % 2 : Nat) : Int)) := fun S => by
          rw [dMod_int (by omega), show (k' : Int) % 2 = ((k' % 2 : Nat) : Int) by omega]
        have hposN : 0 < k' := by omega
        refine ⟨by simp [hpos, hposN, h0], m, ?_⟩
        by_cases hodd : k' % 2 = 1
        · have ho : (k' : Int) % 2 = 1 := by omega
          refine ⟨_, by omega, by simp [md, dv, hodd, ho, t1, t2], k' / 2, acc + P, P + P, _, _, rfl, hk2, R3, R4, ?_⟩
          rw [← hT]
          have : k' = k' / 2 + k' / 2 + 1 := by omega
          conv => rhs; rw [this]
          grind
        · have ho : ¬ (k' : Int) % 2 = 1 := by omega
          refine ⟨_, by omega, by simp [md, dv, hodd, ho, t2], k' / 2, acc, P + P, _, _, rfl, hk2, Rf, R4, ?_⟩
          rw [← hT]
          have : k' = k' / 2 + k' / 2 := by omega
          conv => rhs; rw [this]
          grind)
  exact ⟨f, by simp, Rf⟩
end
end SR
set_option Elab.async false
set_option linter.all false
set_option maxRecDepth 100000
set_option maxHeartbeats 4000000
/-! PG4: a register's rows, values, states -/
namespace SR
open PySem PySem.Spec PyProof.Rows L2 DL LamX PP
section
variable {S : Sto} {p : Int} {n : Nat} {e : En} {a b d rule start : List Int} {i j k : Nat} {r : List Int}
structure Rg (p : Int) (rule start : List Int) : Prop where
  m : Pm p
  rr : ∀ x ∈ rule, 0 ≤ x ∧ x < p
  rs : ∀ x ∈ start, 0 ≤ x ∧ x < p
  len : rule.length = start.length
  most : rule.length ≤ 10
abbrev parts (p : Int) (rule start : List Int) : D := .tup [.int p, tI rule, tI start]
def pol (p : Int) (rule : List Int) : List Int := negP p rule ++ [1]
theorem pol_len : (pol p rule).length = rule.length + 1 := by simp [pol, negP]
theorem ds_pol (h : Pm p) : Ds p (pol p rule) := by
  have hp := h.rng
  refine ⟨h, ⟨fun x hx => ?_, fun _ => ?_⟩, by simp [pol]⟩
  · rcases List.mem_append.mp hx with hx | hx
    · exact negP_rng h.pos x hx
    · simp at hx
      omega
  · rw [pol_len]
    unfold pol cf
    rw [List.getD_eq_getElem?_getD, List.getElem?_append_right (by simp [negP])]
    simp [negP]
theorem Rg.ds (h : Rg p rule start) : Ds p (pol p rule) := ds_pol h.m
theorem Rg.poly (h : Rg p rule start) (n : Nat) : cg p (lam (pol p rule) (sq p rule start) n) 0 := sq_poly h.len n
theorem rest_at (h : Rg p rule start) (hk : k < 2 ^ 64) : ∃ r, f_rest_at_v2 [parts p rule start, .int (k : Nat)] S = .ok (tI r) S ∧ Rst p (sq p rule start) (pol p rule) k r := by
  have hp := h.m.rng
  have hm := h.most
  obtain ⟨r, e1, R⟩ := rest_power (S := S) (a := [0, 1]) (j := 1) (k := k) h.ds (by rw [pol_len]; omega) h.poly Act.x (fun x hx => by simp at hx; omega) (by simp) hk
  have e1 : f_rest_power [.int p, .tup [.int 0, .int 1], .int (k : Nat), tI (pol p rule)] S = .ok (tI r) S := e1
  have e2 := fun S : Sto => polynomial_by (S := S) (p := p) (a := rule) h.m.pos (by omega)
  have e2 : ∀ S, f_polynomial_by [.int p, tI rule] S = .ok (tI (pol p rule)) S := e2
  refine ⟨r, ?_, by rw [Nat.one_mul] at R; exact R⟩
  unfold f_rest_at_v2 t_rest_at_v2
  simp [e2, e1]
theorem value_with (h : Rg p rule start) (R : Rst p (sq p rule start) (pol p rule) k r) : f_value_with [parts p rule start, tI r] S = .ok (.int (sq p rule start k)) S := by
  have hp := h.m.rng
  have hm := h.most
  have hl := h.len
  have rl := R.len
  rw [pol_len] at rl
  have hz : ∀ S : Sto, zipOf S [tI r, tI start] = some (zipL (r.map D.int) (start.map D.int)) := fun _ => rfl
  unfold f_value_with t_value_with
  simp [noOwn, hz]
  have hb : Bd r := fun x hx => by have := R.ok.1 x hx; omega
  rw [prods hb (by omega) (fun q hq S => by simp)]
  simp [dMod_int h.m.pos]
  have e1 : dot r start = lam r (sq p rule start) 0 := dot_lam r start _ 0 (fun i _ h2 => by rw [Nat.zero_add, sq_start h2]) (by omega)
  have e2 := (R.act 0).emod
  rw [Nat.zero_add] at e2
  have e3 := sq_rng (rule := rule) h.m.pos h.rs k
  unfold dot at e1
  rw [e1, e2]
  exact Int.emod_eq_of_lt e3.1 e3.2
theorem value_by (h : Rg p rule start) (hk : k < 2 ^ 64) : f_value_by [parts p rule start, .int (k : Nat)] S = .ok (.int (sq p rule start k)) S := by
  obtain ⟨r, e1, R⟩ := rest_at (S := S) h hk
  unfold f_value_by t_value_by
  simp [e1, value_with h R]
/-- m values from place k on -/
def sqs (p : Int) (rule start : List Int) (k m : Nat) : List Int := (List.range m).map fun i => sq p rule start (k + i)
theorem sqs_len {m : Nat} : (sqs p rule start k m).length = m := by simp [sqs]
theorem sqs_succ {m : Nat} : sqs p rule start k (m + 1) = sqs p rule start k m ++ [sq p rule start (k + m)] := by simp [sqs, List.range_succ]
theorem sqs_rng {m : Nat} (h : Rg p rule start) : ∀ x ∈ sqs p rule start k m, 0 ≤ x ∧ x < p := fun x hx => by
  obtain ⟨i, _, rfl⟩ := List.mem_map.mp hx
  exact sq_rng h.m.pos h.rs _
theorem state_body {P m q a z dd x : D} {v1 v3 v4 s8 : Slot} {l : List D} (t1 : ∀ S, f_value_with [P, q] S = .ok a S) (t2 : ∀ S, f_times_rest [m, q, .tup [.int 0, .int 1], dd] S = .ok z S) (hl : l.length < 100000) :
    mBody (mgName 8) (mSeq (mAppOwn 7 (mCall 2 0 [0, 1] 2 f_value_with (mCons (mVar 0) (mCons (mVar 6) mNil)) mNil)) (mSet 6 (mCall 4 0 [0, 1, 2, 3] 4 f_times_rest (mCons (mVar 2) (mCons (mVar 6) (mCons (mC (.tup [.int 0, .int 1])) (mCons (mVar 5) mNil)))) mNil))) x [.val P, v1, .val m, v3, v4, .val dd, .val q, .own l, s8] S = .nx [.val P, v1, .val m, v3, v4, .val dd, .val z, .own (l ++ [a]), .val x] S := by
  simp [t1, t2, hl]
theorem state_by (h : Rg p rule start) (hk : k < 2 ^ 64) : f_state_by [parts p rule start, .int (k : Nat)] S = .ok (tI (sqs p rule start k rule.length)) S := by
  obtain ⟨r, e1, R⟩ := rest_at (S := S) h hk
  have hm := h.most
  have hp := h.m.rng
  have e2 : ∀ S, f_polynomial_by [.int p, tI rule] S = .ok (tI (pol p rule)) S := fun S => polynomial_by (S := S) (p := p) (a := rule) h.m.pos (by omega)
  unfold f_state_by t_state_by
  simp [noOwn, e1, e2]
  generalize hr : loopS _ _ _ _ = r
  obtain ⟨e', rfl, q, s8, rfl, Rq⟩ := loop_of hr (fun i e => ∃ (q : List Int) (s8 : Slot), e = [.val (parts p rule start), .val (.int k), .val (.int p), .val (tI rule), .val (tI start), .val (tI (pol p rule)), .val (tI q), .own ((sqs p rule start k i).map .int), s8] ∧ Rst p (sq p rule start) (pol p rule) (k + i) q)
    ⟨_, .hid, rfl, R⟩ (fun i x hx e ⟨q, s8, he, Rq⟩ r hr => by
      subst he
      have hi : i < start.length := by
        have := (List.getElem?_eq_some_iff.mp hx).1
        simpa using this
      have t1 := fun S : Sto => value_with (S := S) h Rq
      have t2 := fun S : Sto => rst_times (S := S) h.ds (by rw [pol_len]; omega) h.poly Rq (Act.x (p := p) (s := sq p rule start)) (by simp)
      have R2 := (t2 S).2
      have t2 : ∀ S, f_times_rest [.int p, tI q, .tup [.int 0, .int 1], tI (pol p rule)] S = _ := fun S => (t2 S).1
      have hl := h.len
      have hh := (state_body (S := S) (x := x) (l := (sqs p rule start k i).map .int) t1 t2 (by simp [sqs_len]; omega)).symm.trans hr
      refine ⟨_, hh.symm, _, .val x, ?_, R2⟩
      rw [sqs_succ]
      simp)
  simp [sqs_len, h.len]
theorem sqs_take {m q : Nat} (h : q ≤ start.length + m) : (goN p rule m start).take q = sqs p rule start 0 q := by
  refine cf_ext (by rw [sqs_len, List.length_take, goN_len]; omega) fun i => ?_
  by_cases hi : i < q
  · unfold sqs
    rw [cf_map_range, if_pos hi, Nat.zero_add, ← sq_go (m := m) (by omega)]
    unfold cf
    rw [List.getD_eq_getElem?_getD, List.getD_eq_getElem?_getD, List.getElem?_take_of_lt hi]
  · rw [cf_ge (by rw [List.length_take]; omega), cf_ge (by rw [sqs_len]; omega)]
theorem sqs_cut {m k q : Nat} (h : k + q ≤ m) : ((sqs p rule start 0 m).drop k).take q = sqs p rule start k q := by
  refine cf_ext (by rw [sqs_len, List.length_take, List.length_drop, sqs_len]; omega) fun i => ?_
  by_cases hi : i < q
  · unfold sqs
    rw [cf_map_range, if_pos hi]
    unfold cf
    rw [List.getD_eq_getElem?_getD, List.getElem?_take_of_lt hi, List.getElem?_drop, List.getElem?_map, List.getElem?_range (by omega)]
    simp
  · rw [cf_ge (by rw [List.length_take]; omega), cf_ge (by rw [sqs_len]; omega)]
theorem sqs_at {m k : Nat} (h : k < m) : cf (sqs p rule start 0 m) k = sq p rule start k := by
  unfold sqs
  rw [cf_map_range, if_pos h, Nat.zero_add]
theorem Rg.bd (h : Rg p rule start) : Bd rule := fun x hx => by have := h.rr x hx; have := h.m.rng; omega
theorem row_by {many : Nat} (h : Rg p rule start) (hk : many ≤ 60) : f_row_by [parts p rule start, .int (many : Nat)] S = .ok (tI (sqs p rule start 0 many)) S := by
  have hm := h.most
  have hl := h.len
  have hmax : ∀ S : Sto, d2I (fun i j => if j > i then j else i) S [.int 0, .int ((many : Int) - (start.length : Int))] = some (.int ((many - start.length : Nat) : Int)) := fun S => by
    rw [max_int]
    congr 2
    split <;> omega
  have e1 := fun S : Sto => gone_by (S := S) (row := start) (many := many - start.length) h.m.pos h.bd (by omega) (by omega)
  have e2 : cutL ((goN p rule (many - start.length) start).map D.int) none (some (many : Int)) = (sqs p rule start 0 many).map .int := by
    rw [cut_map, cut_to, sqs_take (by omega)]
  unfold f_row_by t_row_by
  simp [-max_int, hmax, e1, e2]
theorem L_first {many : Nat} (h : Rg p rule start) (hk : many ≤ 60) : f_L_first [parts p rule start, .int (many : Nat)] S = .ok (tI (sqs p rule start 0 many)) S := by
  have hm := h.most
  have hl := h.len
  have hmax : ∀ S : Sto, d2I (fun i j => if j > i then j else i) S [.int 0, .int ((many : Int) - (start.length : Int))] = some (.int ((many - start.length : Nat) : Int)) := fun S => by
    rw [max_int]
    congr 2
    split <;> omega
  have e1 := fun S : Sto => law_go (S := S) (row := start) (many := many - start.length) h.m.pos h.bd (by omega) (by omega)
  have e2 : cutL ((goN p rule (many - start.length) start).map D.int) none (some (many : Int)) = (sqs p rule start 0 many).map .int := by
    rw [cut_map, cut_to, sqs_take (by omega)]
  have x0 : ∀ S : Sto, dIx S (parts p rule start) (.int 0) = some (.int p) := fun _ => rfl
  have x1 : ∀ S : Sto, dIx S (parts p rule start) (.int 1) = some (tI rule) := fun _ => rfl
  have x2 : ∀ S : Sto, dIx S (parts p rule start) (.int 2) = some (tI start) := fun _ => rfl
  unfold f_L_first t_L_first
  simp [-max_int, hmax, e1, e2, x0, x1, x2]
end
end SR
set_option Elab.async false
set_option linter.all false
set_option maxRecDepth 100000
set_option maxHeartbeats 4000000
/-! PG5: registers: made, their parts, equal ones, what is refused -/
namespace SR
open PySem PySem.Spec PyProof.Rows L2 DL LamX PP
section
variable {S : Sto} {p : Int} {n : Nat} {e : En} {a b d rule start : List Int} {i j k : Nat} {r : List Int}
/-- the first ill place of a start of m values -/
def illS (p : Int) (m : Nat) : D → Option D
  | .tup ds => if ds.length < m then some .non else (illL p m 0 ds).map fun i => D.int (i : Nat)
  | _ => some .non
theorem check_start {d : D} {m : Nat} (hd : PlL d) : f_check_start [.int p, .int (m : Nat), d] S = match illS p m d with | none => .ok .non S | some i => .exn ("InvalidStart" : Str) (some (("index" : Str), i)) S := by
  unfold f_check_start t_check_start
  have ha : ∀ (x d2 : D) (S : Sto), Pl d2 → lamF [.val (.int p), .val (.int (m : Nat)), .val d, .hid, .hid, .hid] [4, 5] (mCall 2 0 [0, 1] 2 f_is_value (mCons (mVar 0) (mCons (mVar 5) (mNil))) (mNil)) [x, d2] S = .ok (.bl (fromD d2 0 (p - 1))) S := fun x d2 S h => by
    have e : setEn (hideE [Slot.val (D.int p), Slot.val (D.int (m : Nat)), Slot.val d, Slot.hid, Slot.hid, Slot.hid]) [4, 5] [x, d2] = [.val (.int p), .val (.int (m : Nat)), .val d, .hid, .val x, .val d2] := rfl
    unfold lamF
    rw [e, ev_call]
    simp [is_value h]
  simp
  unfold f_wrong_at
  cases d with
  | tup xs =>
    simp [illS]
    by_cases hl : xs.length < m
    · simp [hl, itemsL, loopS]
    · simp [hl]
      rw [wrong_l ha xs 0 S hd]
      cases illL p m 0 xs <;> simp [itemsL, loopS]
  | _ => first | exact absurd rfl hd | simp [illS, tyName, itemsL, loopS]
abbrev REG : Str := ("Register" : Str)
abbrev rgO (p : Int) (rule start : List Int) : D := .obj ("Register" : Str) [("three" : Str)] [parts p rule start]
@[simp] theorem ev_make {C : Str} {np nk n : Nat} {ix : List Nat} {m : MF} {ml mk : M (List D)} : mMake C np nk ix n m ml mk e S = (ml e S).bnd fun ds S1 => (mk e S1).bnd fun es S2 =>
  if ds.length = np ∧ es.length = nk ∧ (pick ix (.ref S2.length :: (ds ++ es))).length = n then finObj S2 (m (pick ix (.ref S2.length :: (ds ++ es))) (S2 ++ [.ins C []])) else .stuck := rfl
@[simp] theorem ev_prop {C : Str} {m : MF} {mo : M D} : mProp C m mo e S = (mo e S).bnd fun d S1 => match d with
  | .obj C' ks ds => if C' = C then noX (m [.obj C' ks ds] S1) else .stuck
  | _ => .stuck := rfl
@[simp] theorem ev_cmpO {C : Str} {cl : List Str} {m : MF} {g : Bool → Bool} {ma mb : M D} : mCmpO C cl m g ma mb e S = (ma e S).bnd fun a S1 => (mb e S1).bnd fun b S2 => match a with
  | .obj C' ks ds => if C' = C ∧ cmpB cl b = true then (noX (m [.obj C' ks ds, b] S2)).bnd fun r S3 => (match r with
    | .bl k => .ok (.bl (g k)) S3
    | _ => .stuck) else .stuck
  | _ => .stuck := rfl
@[simp] theorem pk4k {a b c d : D} : pick [0, 3, 2, 1] [a, b, c, d] = [a, d, c, b] := rfl
/-- a register being made -/
noncomputable abbrev mkR (m r s : D) (S : Sto) : Res D := finObj S (f_Register___init__ [.ref S.length, m, r, s] (S ++ [.ins ("Register" : Str) []]))
theorem exn_mk {m r s : D} {c : Str} {q : Pay} (h : ∀ S, f_Register___init__ [.ref S.length, m, r, s] (S ++ [.ins ("Register" : Str) []]) = .exn c q (S ++ [.ins ("Register" : Str) []])) : mkR m r s S = .exn c q (S ++ [.ins ("Register" : Str) []]) := by
  unfold mkR
  rw [h]
  rfl
theorem mk_number {m r s : D} (hm : Pl m) (h : goodM m = false) : mkR m r s S = .exn ("InvalidNumber" : Str) (some (("given" : Str), m)) (S ++ [.ins ("Register" : Str) []]) := exn_mk fun S => by
  unfold f_Register___init__ t_Register___init__
  simp [check_modulus hm, h]
theorem check_short {d : D} (hd : PlL d) : f_check_short_rule [.int p, d] S = match illD p 10 d with | none => .ok .non S | some i => .exn ("InvalidRule" : Str) (some (("index" : Str), i)) S := by
  unfold f_check_short_rule t_check_short_rule
  simp [check_rule_of hd]
  cases illD p 10 d <;> simp
theorem mk_rule {r s a : D} (hp : Pm p) (hr : PlL r) (h : illD p 10 r = some a) : mkR (.int p) r s S = .exn ("InvalidRule" : Str) (some (("index" : Str), a)) (S ++ [.ins ("Register" : Str) []]) := exn_mk fun S => by
  unfold f_Register___init__ t_Register___init__
  simp [check_modulus (d := .int p) (fun z => by cases z), goodM_p hp, check_short hr, h]
theorem ill_rowM {l : List Int} {M : Int} : ∀ i : Nat, ((i : Int) + l.length ≤ M) → (∀ x ∈ l, 0 ≤ x ∧ x < p) → illL p M i (l.map D.int) = none := by
  induction l with
  | nil => intros; rfl
  | cons x l ih =>
    intro i h1 h2
    have hx := h2 x (by simp)
    simp at h1
    rw [List.map_cons]
    unfold illL
    have h3 : fromD (.int x) 0 (p - 1) = true := by simp [fromD]; omega
    rw [if_neg (by rw [h3]; simp; omega)]
    exact ih (i + 1) (by omega) fun y hy => h2 y (by simp [hy])
theorem Rg.illr (h : Rg p rule start) : illD p 10 (tI rule) = none := by
  unfold illD
  simp
  exact ill_rowM 0 (by have := h.most; omega) h.rr
theorem mk_start {s a : D} (hp : Pm p) (rr : ∀ x ∈ rule, 0 ≤ x ∧ x < p) (rl : rule.length ≤ 10) (hs : PlL s) (h : illS p rule.length s = some a) : mkR (.int p) (tI rule) s S = .exn ("InvalidStart" : Str) (some (("index" : Str), a)) (S ++ [.ins ("Register" : Str) []]) := exn_mk fun S => by
  have e : illD p 10 (tI rule) = none := by
    unfold illD
    simp
    exact ill_rowM 0 (by omega) rr
  unfold f_Register___init__ t_Register___init__
  simp [check_modulus (d := .int p) (fun z => by cases z), goodM_p hp, check_short (d := tI rule) plL_tI, e, check_start hs, h]
theorem set_end {c c' : Cell} : (S ++ [c]).set S.length c' = S ++ [c'] := by simp [List.set_append]
theorem get_end {c : Cell} : (S ++ [c])[S.length]? = some c := by simp
theorem mk_ok (h : Rg p rule start) : mkR (.int p) (tI rule) (tI start) S = .ok (rgO p rule start) S := by
  have e : illS p rule.length (tI start) = none := by
    unfold illS
    have := h.len
    dsimp only
    rw [if_neg (by simp; omega), ill_rowM 0 (by omega) h.rs]
    rfl
  have e2 : f_Register___init__ [.ref S.length, .int p, tI rule, tI start] (S ++ [.ins ("Register" : Str) []]) = .ok .non (S ++ [.ins ("Register" : Str) [(("three" : Str), parts p rule start)]]) := by
    unfold f_Register___init__ t_Register___init__
    simp [check_modulus (d := .int p) (fun z => by cases z), goodM_p h.m, check_short (d := tI rule) plL_tI, h.illr, check_start (d := tI start) plL_tI, e, mSetFld, putFD]
  have hr : ∀ (l : List Int) (m : Nat), refsOk m (l.map D.int) = true := fun l m => by
    induction l with
    | nil => rfl
    | cons x l ih => simp [refsOk, refOk, ih]
  unfold mkR finObj
  rw [e2]
  dsimp only
  rw [if_pos ⟨rfl, by simp, by simp⟩, get_end]
  simp [refsOk, refOk, hr]
/-! the parts -/
theorem fld : fldOf S [("Register" : Str)] ("three" : Str) (rgO p rule start) = some (parts p rule start) := by
  unfold fldOf
  simp
theorem pr_modulus : f_Register_modulus [rgO p rule start] S = .ok (.int p) S := by
  unfold f_Register_modulus t_Register_modulus
  have x0 : ∀ S : Sto, dIx S (parts p rule start) (.int 0) = some (.int p) := fun _ => rfl
  simp [mFld, fld, x0]
theorem pr_rule : f_Register_rule [rgO p rule start] S = .ok (tI rule) S := by
  unfold f_Register_rule t_Register_rule
  have x0 : ∀ S : Sto, dIx S (parts p rule start) (.int 1) = some (tI rule) := fun _ => rfl
  simp [mFld, fld, x0]
theorem pr_start : f_Register_start [rgO p rule start] S = .ok (tI start) S := by
  unfold f_Register_start t_Register_start
  have x0 : ∀ S : Sto, dIx S (parts p rule start) (.int 2) = some (tI start) := fun _ => rfl
  simp [mFld, fld, x0]
theorem pr_parts : f_Register_parts [rgO p rule start] S = .ok (parts p rule start) S := by
  unfold f_Register_parts t_Register_parts
  simp [mFld, fld]
/-! equal ones -/
theorem toPy_parts : toPy (parts p rule start) = some (.tuple [.int p, .tuple (rule.map PyData.int), .tuple (start.map PyData.int)]) := by
  have e1 : toPy (tI rule) = some (.tuple (rule.map PyData.int)) := by rw [toPy, toPys_ints]; rfl
  have e2 : toPy (tI start) = some (.tuple (start.map PyData.int)) := by rw [toPy, toPys_ints]; rfl
  simp only [toPy, toPys, e1, e2, toPys_ints] <;> simp
theorem shp_parts : SeqAt.shaped (.tuple [.int p, .tuple (rule.map PyData.int), .tuple (start.map PyData.int)]) = true := by
  unfold SeqAt.shaped
  simp only [PyData.canLay0, PyData.canLayAll0, PyData.depth, PyData.depthAll, canLay_ints, depth_ints]
  decide
variable {q : Int} {rule2 start2 : List Int}
def prB2 (p : Int) (rule start : List Int) (q : Int) (rule2 start2 : List Int) : Bool := decide (p = q) && (decide (rule = rule2) && decide (start = start2))
theorem dEqB_parts : dEqB (parts p rule start) (parts q rule2 start2) = some (prB2 p rule start q rule2 start2) := by
  unfold dEqB
  rw [toPy_parts, toPy_parts]
  show (if _ then _ else _) = _
  rw [if_pos ⟨shp_parts, shp_parts⟩]
  simp [PyData.eqv, PyData.eqvAll, eqv_int, eqv_ints, prB2]
  by_cases hpq : p = q <;> simp [hpq]
theorem dEq_parts : dEq S (parts p rule start) (parts q rule2 start2) = some (.bl (prB2 p rule start q rule2 start2)) := by
  show (dEqB _ _).map D.bl = _
  rw [dEqB_parts]
  rfl
theorem dNe_parts : dNe S (parts p rule start) (parts q rule2 start2) = some (.bl (!prB2 p rule start q rule2 start2)) := by
  unfold dNe
  rw [dEqB_parts]
  rfl
theorem prB2_self : prB2 p rule start p rule start = true := by simp [prB2]
theorem isO_reg : dIsO [("Register" : Str)] ("Register" : Str) S (rgO p rule start) = some (.bl true) := by simp [dIsO]
theorem eq_reg : f_Register___eq__ [rgO p rule start, rgO q rule2 start2] S = .ok (.bl (prB2 p rule start q rule2 start2)) S := by
  unfold f_Register___eq__ t_Register___eq__
  simp [isO_reg, pr_parts, dEq_parts]
theorem eq_tup {ds : List D} : f_Register___eq__ [rgO p rule start, .tup ds] S = .ok (.bl false) S := by
  unfold f_Register___eq__ t_Register___eq__
  have : dIsO [("Register" : Str)] ("Register" : Str) S (.tup ds) = some (.bl false) := rfl
  simp [this]
theorem check_reg : f_check_register [rgO p rule start] S = .ok .non S := by
  unfold f_check_register t_check_register
  simp [isO_reg]
theorem check_noreg {d : D} {t : String} (h : tyName d = some t) : f_check_register [d] S = .exn ("NotARegister" : Str) (some (("given" : Str), d)) S := by
  have : dIsO [("Register" : Str)] ("Register" : Str) S d = some (.bl false) := by
    cases d <;> first | (simp [tyName] at h; done) | rfl
  unfold f_check_register t_check_register
  simp [this]
end
end SR
set_option Elab.async false
set_option linter.all false
set_option maxRecDepth 100000
set_option maxHeartbeats 4000000
/-! PB2: _law_same (the bowl laws' one) of a value with itself -/
namespace SR
open PySem PySem.Spec PyProof.Rows L2 DL LamX
section
variable {S : Sto} {d : D} {p : Int} {n : Nat} {e : En}
theorem sm_leaf {k : Nat} (hp : Pl d) (ht : isTupD d = false) (he : d = .non ∨ ∀ S, dEq S d d = some (.bl true)) : f_L_same (k + 1) [d, d] S = .ok (.bl true) S := by
  unfold f_L_same t_L_same
  by_cases hn : d = .non
  · subst hn
    have e1 : dIs S .non .non = some (.bl true) := rfl
    simp [isi_tup (d := .non) (fun z => by cases z), isTupD, e1]
  · have e1 : dIs S d .non = some (.bl false) := by
      cases d <;> first | exact absurd rfl hp | exact absurd rfl hn | rfl
    have e2 : ∀ b : Bool, dNe S (.bl b) (.bl b) = some (.bl false) := fun b => by cases b <;> rfl
    have e3 : dIs S (.bl true) (.bl true) = some (.bl true) := rfl
    have he := he.resolve_left hn
    simp [isi_tup hp, isi_bool hp, isi_int hp, isi_str hp, ht, e1, e2, e3, he]
theorem sm_tupG {k : Nat} {ds : List D} (hl : ds.length ≤ 1000) (h : ∀ x ∈ ds, ∀ S, f_L_same k [x, x] S = .ok (.bl true) S) : f_L_same (k + 1) [.tup ds, .tup ds] S = .ok (.bl true) S := by
  unfold f_L_same t_L_same
  have ht : Pl (.tup ds) := fun z => by cases z
  have e1 : dNe S (.int (ds.length : Int)) (.int (ds.length : Int)) = some (.bl false) := by simp
  simp [isi_tup ht, isTupD, noOwn, rng1_nat (S := S) (j := ds.length) hl]
  rw [lc_map (f := fun _ => none)]
  · have := dEq_nil (S := S) (l := [])
    simp at this
    have e5 : (List.range ds.length).filterMap (fun _ => (none : Option D)) = [] := by simp
    rw [List.nil_append, e5]
    simp [this]
  · simp
    omega
  · intro i hi S
    have hi : i < ds.length := List.mem_range.mp hi
    have e2 : dIx S (.tup ds) (.int (i : Int)) = some ds[i] := DL.atI_nat hi
    have e3 := h ds[i] (List.getElem_mem hi) S
    simp [e2, e3]
theorem dEq_str {x : Str} (h : SeqAt.shaped (.str x) = true) (S : Sto) : dEq S (.str x) (.str x) = some (.bl true) := by
  show (dEqB (.str x) (.str x)).map D.bl = _
  have : dEqB (.str x) (.str x) = some (PyData.eqv (.str x) (.str x)) := by
    unfold dEqB
    show (if _ then _ else _) = _
    rw [if_pos ⟨h, h⟩]
  rw [this]
  have e : PyData.eqv (.str x) (.str x) = true := by simp [PyData.eqv]
  rw [e]
  rfl
/-- a value that is the same as itself, told by depth -/
def Sm : Nat → D → Prop
  | 0, _ => False
  | _ + 1, .non => True
  | _ + 1, .bl _ => True
  | _ + 1, .int _ => True
  | _ + 1, .emp => True
  | _ + 1, .str x => SeqAt.shaped (.str x) = true
  | _ + 1, .lst ds => ∃ l : List Int, ds = l.map D.int
  | k + 1, .tup ds => ds.length ≤ 1000 ∧ ∀ x ∈ ds, Sm k x
  | _ + 1, _ => False
theorem same_sm : ∀ {k : Nat} {d : D} {S : Sto}, Sm k d → f_L_same k [d, d] S = .ok (.bl true) S
  | 0, _, _, h => h.elim
  | k + 1, .non, _, _ => sm_leaf (fun z => by cases z) rfl (.inl rfl)
  | k + 1, .bl b, _, _ => sm_leaf (fun z => by cases z) rfl (.inr fun S => by cases b <;> rfl)
  | k + 1, .int _, _, _ => sm_leaf (fun z => by cases z) rfl (.inr fun S => by simp)
  | k + 1, .emp, _, _ => sm_leaf (fun z => by cases z) rfl (.inr fun S => rfl)
  | k + 1, .str x, _, h => sm_leaf (fun z => by cases z) rfl (.inr (dEq_str h))
  | k + 1, .lst ds, _, h => sm_leaf (fun z => by cases z) rfl (.inr fun S => by
    obtain ⟨l, rfl⟩ := h
    rw [dEq_lst]
    simp)
  | k + 1, .tup ds, _, h => sm_tupG h.1 fun x hx S => same_sm (h.2 x hx)
  | k + 1, .adr _, _, h => h.elim
  | k + 1, .xo1 _ _ _ _, _, h => h.elim
  | k + 1, .ref _, _, h => h.elim
  | k + 1, .glo _, _, h => h.elim
  | k + 1, .scr _, _, h => h.elim
  | k + 1, .obj _ _ _, _, h => h.elim
@[simp] theorem sm_non {k : Nat} : Sm (k + 1) .non = True := by unfold Sm; rfl
@[simp] theorem sm_bl {k : Nat} {b : Bool} : Sm (k + 1) (.bl b) = True := by unfold Sm; rfl
@[simp] theorem sm_int {k : Nat} {b : Int} : Sm (k + 1) (.int b) = True := by unfold Sm; rfl
@[simp] theorem sm_emp {k : Nat} : Sm (k + 1) .emp = True := by unfold Sm; rfl
@[simp] theorem sm_str {k : Nat} {x : Str} : Sm (k + 1) (.str x) = (SeqAt.shaped (.str x) = true) := by unfold Sm; rfl
@[simp] theorem sm_lst {k : Nat} {l : List Int} : Sm (k + 1) (.lst (l.map .int)) = True := by unfold Sm; exact eq_true ⟨l, rfl⟩
@[simp] theorem sm_lst0 {k : Nat} : Sm (k + 1) (.lst []) = True := sm_lst (l := [])
@[simp] theorem sm_lst1 {k : Nat} {i : Int} : Sm (k + 1) (.lst [.int i]) = True := sm_lst (l := [i])
@[simp] theorem sm_tup {k : Nat} {ds : List D} : Sm (k + 1) (.tup ds) = (ds.length ≤ 1000 ∧ ∀ x ∈ ds, Sm k x) := by rw [Sm]
@[simp] theorem sm_tI {k : Nat} {l : List Int} : (∀ x ∈ l.map D.int, Sm (k + 1) x) = True := eq_true fun x hx => by
  obtain ⟨i, _, rfl⟩ := List.mem_map.mp hx
  simp
@[simp] theorem shp_number : SeqAt.shaped (.str ("number" : Str)) = true := by decide +kernel
@[simp] theorem shp_row : SeqAt.shaped (.str ("row" : Str)) = true := by decide +kernel
@[simp] theorem shp_rule : SeqAt.shaped (.str ("rule" : Str)) = true := by decide +kernel
@[simp] theorem shp_over : SeqAt.shaped (.str ("over" : Str)) = true := by decide +kernel
@[simp] theorem shp_none : SeqAt.shaped (.str ("none" : Str)) = true := by decide +kernel
@[simp] theorem shp_polynomial : SeqAt.shaped (.str ("polynomial" : Str)) = true := by decide +kernel
@[simp] theorem shp_start : SeqAt.shaped (.str ("start" : Str)) = true := by decide +kernel
@[simp] theorem shp_notaregister : SeqAt.shaped (.str ("notaregister" : Str)) = true := by decide +kernel
@[simp] theorem shp_1 : SeqAt.shaped (.str ("1" : Str)) = true := by decide +kernel
@[simp] theorem shp_2 : SeqAt.shaped (.str ("2" : Str)) = true := by decide +kernel
end
end SR
set_option Elab.async false
set_option linter.all false
set_option maxRecDepth 100000
set_option maxHeartbeats 8000000
/-! PF5: odd moduli, odd values -/
namespace SR
open PySem PySem.Spec PyProof.Rows L2 DL LamX
section
variable {S : Sto} {d : D} {p : Int} {n : Nat} {e : En}
theorem ill_preM {x : D} {rest : List D} {M : Nat} : ∀ {l : List Int} {i : Nat}, i + l.length ≤ M → (∀ y ∈ l, 0 ≤ y ∧ y < p) → (fromD x 0 (p - 1) = false ∨ i + l.length = M) → illL p M i (l.map D.int ++ x :: rest) = some (i + l.length)
  | [], i, h1, _, h3 => by
    show illL p M i (x :: rest) = _
    unfold illL
    rw [if_pos]
    · simp
    · rcases h3 with h3 | h3
      · exact .inr h3
      · exact .inl (by simp at h3; omega)
  | y :: l, i, h1, h2, h3 => by
    have hy := h2 y (by simp)
    show illL p M i (.int y :: (l.map D.int ++ x :: rest)) = _
    unfold illL
    have h4 : fromD (.int y) 0 (p - 1) = true := by simp [fromD]; omega
    simp at h1 h3
    rw [if_neg (by rw [h4]; simp; omega), ill_preM (l := l) (i := i + 1) (by omega) (fun z hz => h2 z (by simp [hz])) (by rcases h3 with h3 | h3; exact .inl h3; exact .inr (by omega))]
    simp
    omega
theorem of_ret {ds : List D} {Q : D → Prop} (h0 : ds ≠ []) (h1 : ds.length < 1073741824) (hb : Bw n S) (h : ∀ x ∈ ds, Q x) : Gen n (endF ((f_L_of [.ref n, .lst ds] S).bndS e fun d S1 => RS.rt d S1)) Q := by
  obtain ⟨x, S1, e1, b1, hx⟩ := of_lst (n := n) (S := S) h0 h1 hb
  rw [e1]
  exact Gen.ok b1 (h x hx)
def oddVs (p : Int) : List D := [.non, .int p, .int (-1), .bl true, .str ("1" : Str), .tup [.int 1], .lst [.int 0], .int (p + 1), .bl false]
theorem odd_vs : ∀ d ∈ oddVs p, Pl d ∧ fromD d 0 (p - 1) = false := by
  intro d hd
  simp only [oddVs, List.mem_cons, List.not_mem_nil, or_false] at hd
  rcases hd with rfl | rfl | rfl | rfl | rfl | rfl | rfl | rfl | rfl <;> refine ⟨(fun z => by cases z), ?_⟩ <;> first | rfl | (simp [fromD]; done) | (simp [fromD]; omega)
def oddMs : List D := [.non, .int 4, .int 0, .int 1, .int 11, .int 6, .bl true, .str ("2" : Str), .tup [.int 2], .lst [.int 3], .int (-2), .int 9, .emp]
abbrev IxD (a : D) : Prop := a = .non ∨ ∃ i : Int, a = .int i
abbrev IllV (p : Int) (M : Nat) (d : D) : Prop := ∃ b a : D, d = .tup [b, a] ∧ PlL b ∧ illD p M b = some a ∧ IxD a
theorem ill_a {M : Nat} {l : List Int} {x : D} {rest : List D} (h1 : l.length ≤ M) (h2 : ∀ y ∈ l, 0 ≤ y ∧ y < p) (h3 : fromD x 0 (p - 1) = false ∨ l.length = M) (hx : Pl x) (hr : ∀ d ∈ rest, Pl d) {a : Int} (ha : a = l.length) : IllV p M (.tup [.tup (l.map D.int ++ x :: rest), .int a]) := by
  refine ⟨_, _, rfl, fun d hd => ?_, ?_, .inr ⟨_, rfl⟩⟩
  · rcases List.mem_append.mp hd with hd | hd
    · obtain ⟨i, _, rfl⟩ := List.mem_map.mp hd
      exact fun z => by cases z
    · rcases List.mem_cons.mp hd with rfl | hd
      · exact hx
      · exact hr d hd
  · show (illL p M 0 _).map _ = _
    rw [ill_preM (by omega) h2 (by rcases h3 with h3 | h3; exact .inl h3; exact .inr (by omega)), ha]
    simp
theorem ill_n {M : Nat} {b : D} (h : PlL b) (hi : illD p M b = some .non) : IllV p M (.tup [b, .non]) := ⟨_, _, rfl, h, hi, .inl rfl⟩
theorem odd_ms : ∀ d ∈ oddMs, Pl d ∧ (∀ k, Sm (k + 2) d) ∧ goodM d = false := by
  intro d hd
  simp only [oddMs, List.mem_cons, List.not_mem_nil, or_false] at hd
  rcases hd with rfl | rfl | rfl | rfl | rfl | rfl | rfl | rfl | rfl | rfl | rfl | rfl | rfl <;> refine ⟨(fun z => by cases z), (fun k => by simp), ?_⟩ <;> first | rfl | (simp [goodM]; done)
theorem oddm_gen (hb : Bw n S) : Gen n (f_L_odd_modulus [.ref n] S) (· ∈ oddMs) := by
  obtain ⟨d, S1, e1, b1, hx⟩ := of_tup (n := n) (S := S) (ds := oddMs) (by simp [oddMs]) (by simp [oddMs]) hb
  refine ⟨d, S1, ?_, b1, hx⟩
  unfold oddMs at e1
  unfold f_L_odd_modulus t_L_odd_modulus
  simp [e1]
theorem oddv_gen {row : List Int} {M : Nat} (hM : M ≤ 60) (hp : 2 ≤ p) (hl : row.length ≤ M) (hr : ∀ x ∈ row, 0 ≤ x ∧ x < p) (hb : Bw n S) : Gen n (f_L_odd_values [.ref n, .int p, tI row, .int (M : Nat)] S) (IllV p M) := by
  unfold f_L_odd_values t_L_odd_values
  obtain ⟨_, S1, e1, b1, at_, rfl, a0, a1⟩ := draw (n := n) (S := S) (m := (row.length : Int) + 1) (by omega) (by omega) hb
  obtain ⟨k, rfl⟩ : ∃ k : Nat, at_ = k := ⟨at_.toNat, by omega⟩
  obtain ⟨bad, S2, e2, b2, hx⟩ := of_tup (n := n) (S := S1) (ds := oddVs p) (by simp [oddVs]) (by simp [oddVs]) b1
  obtain ⟨pb, fb⟩ := odd_vs bad hx
  unfold oddVs at e2
  simp [e1, e2]
  obtain ⟨A, hA⟩ : ∃ A, A = (row.take k).map D.int := ⟨_, rfl⟩
  obtain ⟨B, hB⟩ : ∃ B, B = (row.drop k).map D.int := ⟨_, rfl⟩
  obtain ⟨C, hC⟩ : ∃ C, C = (row.drop (k + 1)).map D.int := ⟨_, rfl⟩
  obtain ⟨Z, hZ⟩ : ∃ Z, Z = (List.replicate M (0 : Int)).map D.int := ⟨_, rfl⟩
  obtain ⟨Y, hY⟩ : ∃ Y, Y = (List.replicate M (1 : Int)).map D.int := ⟨_, rfl⟩
  have lA : A.length ≤ 60 := by rw [hA]; simp; omega
  have lB : B.length ≤ 60 := by rw [hB]; simp; omega
  have lC : C.length ≤ 60 := by rw [hC]; simp; omega
  have lZ : Z.length = M := by rw [hZ]; simp <;> omega
  have lY : Y.length = M := by rw [hY]; simp <;> omega
  have r0 : dMul S2 (.tup [.int 0]) (.int (M : Nat)) = some (.tup Z) := by rw [hZ]; rw [rep1 (by omega) (by omega), Int.toNat_natCast]
  have r1 : dMul S2 (.tup [.int 1]) (.int (M : Nat)) = some (.tup Y) := by rw [hY]; rw [rep1 (by omega) (by omega), Int.toNat_natCast]
  have a0 : dAdd S2 (.tup Z) (.tup [.int 0]) = some (.tup (Z ++ [.int 0])) := dAdd_tups (by simp; omega)
  have a1 : dAdd S2 (.tup Y) (.tup [.non, .int 1]) = some (.tup (Y ++ [.non, .int 1])) := dAdd_tups (by simp; omega)
  have c1 : cutL (row.map D.int) none (some (k : Int)) = A := by rw [hA, cut_map, cut_to]
  have c2 : cutL (row.map D.int) (some (k : Int)) none = B := by rw [hB, cut_map, cut_from2]
  have c3 : cutL (row.map D.int) (some ((k : Int) + 1)) none = C := by rw [hC, show (k : Int) + 1 = ((k + 1 : Nat) : Int) by omega, cut_map, cut_from2]
  have q1 : dAdd S2 (.tup A) (.tup [bad]) = some (.tup (A ++ [bad])) := dAdd_tups (by simp; omega)
  have q2 : dAdd S2 (.tup (A ++ [bad])) (.tup B) = some (.tup (A ++ bad :: B)) := by
    rw [dAdd_tups (by simp; omega)]
    simp
  have q3 : dAdd S2 (.tup (A ++ bad :: B)) (.tup [.int 0]) = some (.tup (A ++ bad :: (B ++ [.int 0]))) := by
    rw [dAdd_tups (by simp; omega)]
    simp
  have q4 : dAdd S2 (.tup (A ++ [bad])) (.tup C) = some (.tup (A ++ bad :: C)) := by
    rw [dAdd_tups (by simp; omega)]
    simp
  simp [r0, r1, a0, a1, c1, c2, c3, q1, q2, q3, q4, itemsAny]
  refine of_ret (by simp) (by simp) b2 ?_
  have pI : ∀ (l : List Int), ∀ d ∈ l.map D.int, Pl d := fun l d hd => by
    obtain ⟨i, _, rfl⟩ := List.mem_map.mp hd
    exact fun z => by cases z
  have hAk : ∀ a : Int, a = (row.take k).length ↔ a = k := fun a => by rw [List.length_take, Nat.min_eq_left (by omega)]
  have u1 : IllV p M (.tup [.tup (A ++ bad :: (B ++ [.int 0])), .int k]) := by
    rw [hA]
    refine ill_a (by simp; omega) (fun y hy => hr y (List.mem_of_mem_take hy)) (.inl fb) pb (fun d hd => ?_) ((hAk _).mpr rfl)
    rcases List.mem_append.mp hd with hd | hd
    · rw [hB] at hd
      exact pI _ d hd
    · simp at hd
      subst hd
      exact fun z => by cases z
  have u2 : IllV p M (.tup [.tup (A ++ bad :: C), .int k]) := by
    rw [hA]
    refine ill_a (by simp; omega) (fun y hy => hr y (List.mem_of_mem_take hy)) (.inl fb) pb (fun d hd => ?_) ((hAk _).mpr rfl)
    rw [hC] at hd
    exact pI _ d hd
  have u3 : IllV p M (.tup [.tup (Z ++ [.int 0]), .int (M : Nat)]) := by
    rw [hZ]
    refine ill_a (by simp <;> omega) (fun y hy => by have := (List.mem_replicate.mp hy).2; omega) (.inr (by simp <;> omega)) (fun z => by cases z) (fun d hd => by simp at hd) (by simp <;> omega)
  have u4 : IllV p M (.tup [.tup (Y ++ [.non, .int 1]), .int (M : Nat)]) := by
    rw [hY]
    refine ill_a (by simp <;> omega) (fun y hy => by have := (List.mem_replicate.mp hy).2; omega) (.inr (by simp <;> omega)) (fun z => by cases z) (fun d hd => by simp at hd; subst hd; exact fun z => by cases z) (by simp <;> omega)
  have v1 : IllV p M (.tup [.non, .non]) := ill_n (fun z => by cases z) rfl
  have v2 : IllV p M (.tup [.int 3, .non]) := ill_n (fun z => by cases z) rfl
  have v3 : IllV p M (.tup [.lst (row.map .int), .non]) := ill_n (fun z => by cases z) rfl
  have v4 : IllV p M (.tup [.str ("row" : Str), .non]) := ill_n (fun z => by cases z) rfl
  have v5 : IllV p M (.tup [.emp, .non]) := ill_n (fun z => by cases z) rfl
  have v6 : IllV p M (.tup [.bl true, .non]) := ill_n (fun z => by cases z) rfl
  intro x hx
  simp only [List.mem_cons, List.mem_append, List.not_mem_nil, or_false, List.append_assoc] at hx
  rcases hx with rfl | rfl | rfl | rfl | rfl | rfl | rfl | rfl | rfl | rfl | rfl | rfl | rfl | rfl | rfl | rfl <;> assumption
end
end SR
set_option Elab.async false
set_option linter.all false
set_option maxRecDepth 100000
set_option maxHeartbeats 8000000
/-! PG6: rows, values, states of registers; drawn registers -/
namespace SR
open PySem PySem.Spec PyProof.Rows L2 DL LamX PP
section
variable {S : Sto} {p : Int} {n : Nat} {e : En} {a b rule start : List Int} {i j k : Nat} {r : List Int} {d : D}
theorem row_of_ok {many : Nat} (h : Rg p rule start) (hk : many ≤ 60) : f_row_of [rgO p rule start, .int (many : Nat)] S = .ok (tI (sqs p rule start 0 many)) S := by
  have hf : fromD (.int (many : Nat)) 0 60 = true := by simp [fromD]; omega
  unfold f_row_of t_row_of
  simp [check_reg, check_number (d := .int (many : Nat)) (fun z => by cases z), hf, pr_parts, row_by h hk]
theorem value_at_ok (h : Rg p rule start) (hk : k ≤ 1000000000000000000) : f_value_at [rgO p rule start, .int (k : Nat)] S = .ok (.int (sq p rule start k)) S := by
  have hf : fromD (.int (k : Nat)) 0 1000000000000000000 = true := by simp [fromD]; omega
  unfold f_value_at t_value_at
  simp [check_reg, check_number (d := .int (k : Nat)) (fun z => by cases z), hf, pr_parts, value_by h (k := k) (by omega)]
theorem state_at_ok (h : Rg p rule start) (hk : k ≤ 1000000000000000000) : f_state_at [rgO p rule start, .int (k : Nat)] S = .ok (tI (sqs p rule start k rule.length)) S := by
  have hf : fromD (.int (k : Nat)) 0 1000000000000000000 = true := by simp [fromD]; omega
  unfold f_state_at t_state_at
  simp [check_reg, check_number (d := .int (k : Nat)) (fun z => by cases z), hf, pr_parts, state_by h (k := k) (by omega)]
theorem row_of_noreg {t : String} {x : D} (h : tyName d = some t) : f_row_of [d, x] S = .exn ("NotARegister" : Str) (some (("given" : Str), d)) S := by
  unfold f_row_of t_row_of
  simp [check_noreg h]
theorem value_at_noreg {t : String} {x : D} (h : tyName d = some t) : f_value_at [d, x] S = .exn ("NotARegister" : Str) (some (("given" : Str), d)) S := by
  unfold f_value_at t_value_at
  simp [check_noreg h]
theorem state_at_noreg {t : String} {x : D} (h : tyName d = some t) : f_state_at [d, x] S = .exn ("NotARegister" : Str) (some (("given" : Str), d)) S := by
  unfold f_state_at t_state_at
  simp [check_noreg h]
theorem row_of_nonum (hd : Pl d) (h : fromD d 0 60 = false) : f_row_of [rgO p rule start, d] S = .exn ("InvalidNumber" : Str) (some (("given" : Str), d)) S := by
  unfold f_row_of t_row_of
  simp [check_reg, check_number hd, h]
theorem value_at_nonum (hd : Pl d) (h : fromD d 0 1000000000000000000 = false) : f_value_at [rgO p rule start, d] S = .exn ("InvalidNumber" : Str) (some (("given" : Str), d)) S := by
  unfold f_value_at t_value_at
  simp [check_reg, check_number hd, h]
theorem state_at_nonum (hd : Pl d) (h : fromD d 0 1000000000000000000 = false) : f_state_at [rgO p rule start, d] S = .exn ("InvalidNumber" : Str) (some (("given" : Str), d)) S := by
  unfold f_state_at t_state_at
  simp [check_reg, check_number hd, h]
theorem made_ok (h : Rg p rule start) : f_L_made [parts p rule start] S = .ok (rgO p rule start) S := by
  have x0 : ∀ S : Sto, dIx S (parts p rule start) (.int 0) = some (.int p) := fun _ => rfl
  have x1 : ∀ S : Sto, dIx S (parts p rule start) (.int 1) = some (tI rule) := fun _ => rfl
  have x2 : ∀ S : Sto, dIx S (parts p rule start) (.int 2) = some (tI start) := fun _ => rfl
  have mk : ∀ S, finObj S (f_Register___init__ [.ref S.length, .int p, tI rule, tI start] (S ++ [.ins ("Register" : Str) []])) = .ok (rgO p rule start) S := fun S => mk_ok h
  unfold f_L_made t_L_made
  simp [x0, x1, x2, mk]
theorem register_gen (h : Pm p) (hb : Bw n S) : Gen n (f_L_register [.ref n, .int p, .int 10] S) (fun d => ∃ rule start, d = parts p rule start ∧ Rg p rule start) := by
  have hp := h.rng
  unfold f_L_register t_L_register
  obtain ⟨_, S1, e1, b1, rule, rfl, rl, rr⟩ := rule_gen (n := n) (S := S) (p := p) (most := 10) (by omega) (by omega) (by omega) (by omega) hb
  obtain ⟨_, S2, e2, b2, w, rfl, w0, w1⟩ := draw (n := n) (S := S1) (m := 5) (by omega) (by omega) b1
  simp [e1, e2]
  by_cases hw : 0 < w
  · simp [hw, rng1_nat (S := S2) (j := rule.length) (by omega), noOwn]
    generalize hr : lcL _ _ _ _ = r
    obtain ⟨l, S', rfl, b, ll, hl⟩ := lcg_ints (a := 0) (b := p) hr (fun d hd S hS => by
        obtain ⟨_, S4, e4, b4, k, rfl, k0, k1⟩ := draw (n := n) (S := S) (m := p) (by omega) (by omega) hS
        refine ⟨.int k, S4, ?_, b4, _, rfl, by omega, by omega⟩
        simp [e4]) (by simp; omega) b2
    simp at ll
    simp
    exact Gen.ok b ⟨rule, l, rfl, ⟨h, rr, hl, ll.symm, by omega⟩⟩
  · have z1 : ∀ S : Sto, dMul S (.tup [.int 0]) (.int (if 1 < (rule.length : Int) then (rule.length : Int) - 1 else 0)) = some (tI (List.replicate (rule.length - 1) 0)) := fun S => by
      rw [show (if 1 < (rule.length : Int) then (rule.length : Int) - 1 else 0) = ((rule.length - 1 : Nat) : Int) by split <;> omega, rep1 (by omega) (by omega), Int.toNat_natCast]
    have z2 : ∀ S : Sto, dMul S (.tup [.int 1]) (.int (if (rule.length : Int) < 1 then (rule.length : Int) else 1)) = some (tI (List.replicate (min 1 rule.length) 1)) := fun S => by
      rw [show (if (rule.length : Int) < 1 then (rule.length : Int) else 1) = ((min 1 rule.length : Nat) : Int) by split <;> omega, rep1 (by omega) (by omega), Int.toNat_natCast]
    have z3 : ∀ S : Sto, dAdd S (tI (List.replicate (rule.length - 1) 0)) (tI (List.replicate (min 1 rule.length) 1)) = some (tI (List.replicate (rule.length - 1) 0 ++ List.replicate (min 1 rule.length) 1)) := fun S => add_tI (by simp; omega)
    have hw' : ¬ (w > 0) := hw
    simp [-List.map_replicate, -List.map_append, hw, z1, z2, z3]
    refine Gen.ok b2 ⟨rule, List.replicate (rule.length - 1) 0 ++ List.replicate (min 1 rule.length) 1, rfl, ⟨h, rr, fun x hx => ?_, by simp; omega, by omega⟩⟩
    rcases List.mem_append.mp hx with hx | hx
    · have := (List.mem_replicate.mp hx).2
      omega
    · have := (List.mem_replicate.mp hx).2
      omega
end
end SR
set_option Elab.async false
set_option linter.all false
set_option maxRecDepth 100000
set_option maxHeartbeats 8000000
/-! K03P1: register_right -/
namespace SR
open PySem PySem.Spec PyProof.Rows L2 DL LamX PP
section
variable {S : Sto} {p : Int} {n : Nat} {e : En} {a b rule start : List Int} {i j k : Nat} {r : List Int} {d : D}
theorem sqs_row (h : Rg p rule start) : goN p rule (60 - rule.length) start = sqs p rule start 0 60 := by
  have hl := h.len
  have hm := h.most
  have := sqs_take (p := p) (rule := rule) (start := start) (m := 60 - rule.length) (q := 60) (by omega)
  rw [List.take_of_length_le (by rw [goN_len]; omega)] at this
  exact this
theorem Rg.gpr (h : Rg p rule start) : Gp p (sqs p rule start 0 60) rule := ⟨h.m, ⟨by rw [sqs_len]; omega, sqs_rng h⟩, ⟨by have := h.most; omega, h.rr⟩⟩
theorem Rg.gps (h : Rg p rule start) : Gp p start rule := ⟨h.m, ⟨by have := h.most; have := h.len; omega, h.rs⟩, ⟨by have := h.most; omega, h.rr⟩⟩
theorem keeps_reg (h : Rg p rule start) : f_keeps [.int p, tI (sqs p rule start 0 60), tI rule] S = .ok (.bl true) S := by
  rw [keeps_ok h.gpr]
  have hl := h.len
  have := lots_go (p := p) (row := start) (rule := rule) (m := 60 - rule.length) (by omega)
  rw [show start.length - rule.length = 0 by omega, List.drop_zero, sqs_row h] at this
  rw [this]
  simp
theorem gone_reg (h : Rg p rule start) : f_gone_on [.int p, tI start, tI rule, .int ((60 - rule.length : Nat) : Int)] S = .ok (tI (sqs p rule start 0 60)) S := by
  have hl := h.len
  have hm := h.most
  rw [gone_ok h.gps (by omega), if_neg (by omega), sqs_row h]
theorem register_right (h : Rg p rule start) (hb : Bw n S) : Gen n (f_L_register_right [.ref n, parts p rule start] S) (· = .bl true) := by
  have hl := h.len
  have hm := h.most
  unfold f_L_register_right t_L_register_right
  obtain ⟨_, S1, e1, b1, rule2, start2, rfl, h2⟩ := register_gen (n := n) (S := S) (p := p) h.m hb
  have mk : ∀ S, finObj S (f_Register___init__ [.ref S.length, .int p, tI rule, tI start] (S ++ [.ins ("Register" : Str) []])) = .ok (rgO p rule start) S := fun S => mk_ok h
  have m1 := fun S : Sto => made_ok (S := S) h
  have m2 := fun S : Sto => made_ok (S := S) h2
  have c1 : cmpB [("Register" : Str)] (rgO p rule start) = true := by simp [cmpB]
  have c2 : cmpB [("Register" : Str)] (parts p rule start) = true := rfl
  have c3 : cmpB [("Register" : Str)] (rgO p rule2 start2) = true := by simp [cmpB]
  obtain ⟨B, hB⟩ : ∃ B, B = prB2 p rule start p rule2 start2 := ⟨_, rfl⟩
  have q1 := fun S : Sto => eq_reg (S := S) (p := p) (rule := rule) (start := start) (q := p) (rule2 := rule) (start2 := start)
  rw [prB2_self] at q1
  have q2 := fun S : Sto => eq_reg (S := S) (p := p) (rule := rule) (start := start) (q := p) (rule2 := rule2) (start2 := start2)
  have q3 : ∀ S, f_Register___eq__ [rgO p rule start, parts p rule start] S = .ok (.bl false) S := fun S => eq_tup
  have q4 := fun S : Sto => dEq_parts (S := S) (p := p) (rule := rule) (start := start) (q := p) (rule2 := rule2) (start2 := start2)
  have q5 := fun S : Sto => dNe_parts (S := S) (p := p) (rule := rule) (start := start) (q := p) (rule2 := rule2) (start2 := start2)
  rw [← hB] at q2 q4 q5
  have s1 : ∀ S : Sto, f_L_same 8 [.tup [.int p, tI rule, tI start, parts p rule start, .bl true, .bl false, .bl false, .bl B, .bl (!B)], .tup [.int p, tI rule, tI start, parts p rule start, .bl true, .bl false, .bl false, .bl B, .bl (!B)]] S = .ok (.bl true) S := fun S => same_sm (by simp; omega)
  obtain ⟨_, S2, e2, b2, dr, rfl, r0, r1⟩ := draw (n := n) (S := S1) (m := 61) (by omega) (by omega) b1
  obtain ⟨many, S3, e3, b3, hmany⟩ := of_tup (n := n) (S := S2) (ds := [.int 0, .int 1, .int (rule.length : Nat), .int dr, .int 60]) (by simp) (by simp) b2
  obtain ⟨mn, rfl, hmn⟩ : ∃ mn : Nat, many = .int (mn : Nat) ∧ mn ≤ 60 := by
    simp at hmany
    rcases hmany with rfl | rfl | rfl | rfl | rfl
    · exact ⟨0, rfl, by omega⟩
    · exact ⟨1, rfl, by omega⟩
    · exact ⟨rule.length, rfl, by omega⟩
    · exact ⟨dr.toNat, by rw [Int.toNat_of_nonneg r0], by omega⟩
    · exact ⟨60, rfl, by omega⟩
  obtain ⟨_, S4, e4, b4, pl, rfl, p0, p1⟩ := draw (n := n) (S := S3) (m := 50) (by omega) (by omega) b3
  obtain ⟨k, rfl⟩ : ∃ k : Nat, pl = k := ⟨pl.toNat, by omega⟩
  have f1 : ∀ S, f_L_first [parts p rule start, .int 60] S = .ok (tI (sqs p rule start 0 60)) S := fun S => L_first (many := 60) h (by omega)
  have o1 := fun S : Sto => row_of_ok (S := S) h hmn
  have o2 := fun S : Sto => value_at_ok (S := S) (k := k) h (by omega)
  have o3 := fun S : Sto => state_at_ok (S := S) (k := k) h (by omega)
  have o4 : ∀ S, f_row_of [rgO p rule start, .int 60] S = .ok (tI (sqs p rule start 0 60)) S := fun S => row_of_ok (many := 60) h (by omega)
  have u1 : cutL ((sqs p rule start 0 60).map D.int) none (some (mn : Int)) = (sqs p rule start 0 mn).map .int := by
    rw [cut_map, cut_to]
    have := sqs_cut (p := p) (rule := rule) (start := start) (m := 60) (k := 0) (q := mn) (by omega)
    rw [List.drop_zero] at this
    rw [this]
  have u2 : ∀ S : Sto, dIx S (tI (sqs p rule start 0 60)) (.int (k : Int)) = some (.int (sq p rule start k)) := fun S => by
    rw [ix_tup (by rw [sqs_len]; omega), sqs_at (by omega)]
  have u3 : cutL ((sqs p rule start 0 60).map D.int) (some (k : Int)) (some ((k : Int) + (rule.length : Int))) = (sqs p rule start k rule.length).map .int := by
    rw [show (k : Int) + (rule.length : Int) = ((k + rule.length : Nat) : Int) by omega, cut_map, cut_mid _ _ _ (by rw [sqs_len]; omega), show k + rule.length - k = rule.length by omega, sqs_cut (by omega)]
  have s2 : ∀ S : Sto, f_L_same 8 [.tup [tI (sqs p rule start 0 mn), tI (sqs p rule start 0 mn), .int (sq p rule start k), .int (sq p rule start k), tI (sqs p rule start k rule.length), tI (sqs p rule start k rule.length)], .tup [tI (sqs p rule start 0 mn), tI (sqs p rule start 0 mn), .int (sq p rule start k), .int (sq p rule start k), tI (sqs p rule start k rule.length), tI (sqs p rule start k rule.length)]] S = .ok (.bl true) S := fun S => same_sm (by simp [sqs_len]; omega)
  have k1 := fun S : Sto => keeps_reg (S := S) h
  have k2 := fun S : Sto => gone_reg (S := S) h
  rw [show ((60 - rule.length : Nat) : Int) = 60 - (rule.length : Int) by omega] at k2
  have s3 : ∀ S : Sto, f_L_same 8 [tI (sqs p rule start 0 60), tI (sqs p rule start 0 60)] S = .ok (.bl true) S := fun S => same_sm (by simp [sqs_len])
  have i1 : ∀ S : Sto, dIs S (.bl true) (.bl true) = some (.bl true) := fun _ => rfl
  simp [m1, m2, mk, e1, pr_modulus, pr_rule, pr_start, pr_parts, c1, c2, c3, q1, q2, q3, q4, q5, s1, e2, e3, e4, f1, o1, o2, o3, o4, u1, u2, u3, s2, k1, k2, s3, i1]
  exact Gen.ok b4 rfl
end
end SR
set_option Elab.async false
set_option linter.all false
set_option maxRecDepth 100000
set_option maxHeartbeats 8000000
namespace SR
open PySem PySem.Spec PyProof.Rows L2 DL LamX
section
variable {S : Sto} {d : D} {p : Int} {n : Nat} {e : En}
abbrev b_cell : MS := (mSet 3 (mOp dMod (mCB dInt (mCons (mOp dAdd (mOp dAdd (mOp dMul (mVar 3) (mC (.int 48611))) (mOp dMul (mOp dMod (mCB dInt (mCons (mVar 4) (mNil))) (mC (.int 2147483353))) (mC (.int 3)))) (mC (.int 71))) (mNil))) (mC (.int 2147483423))))
abbrev b_bF (B : MS) : MS := mSeq (mPar 2 3 (mCons (mIf (mTest (mOp (dCmp fun i j => decide (i < j)) (mVar 1) (mCB dLen (mCons (mVar 0) (mNil))))) (mCB dInt (mCons (mOp dIx (mVar 0) (mVar 1)) (mNil))) (mC (.int 0))) (mCons (mOp dAdd (mC (.int 880069)) (mOp dMul (mC (.int 3109)) (mVar 1))) (mNil)))) (mSeq (mFor (mItems (mSl dSl (mVar 0) (mC none) (mPart (mC (.int 16))))) (mgName 4) B) (mSeq (mSet 5 (mIf (mOrT (mTest (mOp (dCmp fun i j => decide (i < j)) (mVar 2) (mC (.int 0)))) (mTest (mOp (dCmp fun i j => decide (j ≤ i)) (mVar 2) (mOp dPow (mC (.int 10)) (mC (.int 16)))))) (mOp dMod (mCB dAbs (mCons (mVar 2) (mNil))) (mOp dPow (mC (.int 10)) (mC (.int 60)))) (mC (.int 0)))) (mRet (mCellN (mNewL (mCons (mVar 5) (mCons (mOp dMod (mCB dInt (mCons (mOp dAdd (mOp dAdd (mOp dMul (mVar 3) (mC (.int 31))) (mOp dMod (mCB dInt (mCons (mVar 2) (mNil))) (mC (.int 2147483353)))) (mC (.int 401))) (mNil))) (mC (.int 2147483423))) (mNil))))))))
theorem cells_ok {v0 v1 v2 v5 : Slot} : ∀ (l : List Int) (st : Int) (s4 : Slot) (S : Sto), ∃ (st' : Int) (t4 : Slot), loopS (mBody (mgName 4) b_cell) (l.map D.int) [v0, v1, v2, .val (.int st), s4, v5] S = .nx [v0, v1, v2, .val (.int st'), t4, v5] S
  | [], st, s4, S => ⟨st, s4, rfl⟩
  | x :: l, st, s4, S => by
    have m1 : ∀ S : Sto, dMul S (.int st) (.int 48611) = some (.int (st * 48611)) := fun _ => dMul_int (Or.inr (by decide))
    have m2 : ∀ S : Sto, dMod S (.int x) (.int 2147483353) = some (.int (x % 2147483353)) := fun _ => dMod_int (by decide)
    have m3 : ∀ (S : Sto) (z : Int), dMul S (.int z) (.int 3) = some (.int (z * 3)) := fun _ _ => dMul_int (Or.inr (by decide))
    have m4 : ∀ (S : Sto) (z : Int), dMod S (.int z) (.int 2147483423) = some (.int (z % 2147483423)) := fun _ _ => dMod_int (by decide)
    obtain ⟨st', t4, e⟩ := cells_ok l ((st * 48611 + x % 2147483353 * 3 + 71) % 2147483423) (.val (.int x)) S
    refine ⟨st', t4, ?_⟩
    rw [← e]
    have e1 : mBody (mgName 4) b_cell (.int x) [v0, v1, v2, .val (.int st), s4, v5] S = .nx [v0, v1, v2, .val (.int ((st * 48611 + x % 2147483353 * 3 + 71) % 2147483423)), .val (.int x), v5] S := by
      simp [m1, m2, m3, m4]
    show (match mBody (mgName 4) b_cell (.int x) _ S with | .nx e1 S1 => loopS (mBody (mgName 4) b_cell) (l.map D.int) e1 S1 | .ct e1 S1 => loopS (mBody (mgName 4) b_cell) (l.map D.int) e1 S1 | .bk e1 S1 => .nx e1 S1 | r => r) = _
    rw [e1]
theorem bowl_ok {ns : List Int} {lap : Int} (h0 : 0 ≤ lap) (h1 : lap ≤ 2) : ∃ a b : Int, f_L_bowl [.scr ns, .int lap] S = .ok (.ref S.length) (S ++ [.lst [.int a, .int b]]) := by
  obtain ⟨own, ho⟩ : ∃ own : Int, ∀ (e : En), e[0]? = some (.val (.scr ns)) → e[1]? = some (.val (.int lap)) → (mIf (mTest (mOp (dCmp fun i j => decide (i < j)) (mVar 1) (mCB dLen (mCons (mVar 0) (mNil))))) (mCB dInt (mCons (mOp dIx (mVar 0) (mVar 1)) (mNil))) (mC (.int 0))) e S = .ok (.int own) S := by
    by_cases hl : lap < ns.length
    · obtain ⟨x, q1, q2, q3⟩ := DL.atI_lt h0 hl
      refine ⟨x, fun e g0 g1 => ?_⟩
      have q4 : dIx S (.scr ns) (.int lap) = some (.int x) := by
        show (atI ns lap).map D.int = _
        rw [q1]
        rfl
      simp [g0, g1, hl, q4]
    · exact ⟨0, fun e g0 g1 => by simp [g0, g1, hl]⟩
  have e1 := ho [.val (.scr ns), .val (.int lap), .hid, .hid, .hid, .hid] rfl rfl
  obtain ⟨st', t4, e2⟩ := cells_ok (v0 := .val (.scr ns)) (v1 := .val (.int lap)) (v2 := .val (.int own)) (v5 := .hid) (ns.take 16) (880069 + 3109 * lap) .hid S
  have m1 : ∀ S : Sto, dMul S (.int 3109) (.int lap) = some (.int (3109 * lap)) := fun _ => dMul_int (Or.inl (by decide))
  have m2 : ∀ S : Sto, dMod S (.int own) (.int 2147483353) = some (.int (own % 2147483353)) := fun _ => dMod_int (by decide)
  have m3 : ∀ (S : Sto) (z : Int), dMul S (.int z) (.int 31) = some (.int (z * 31)) := fun _ _ => dMul_int (Or.inr (by decide))
  have m4 : ∀ (S : Sto) (z : Int), dMod S (.int z) (.int 2147483423) = some (.int (z % 2147483423)) := fun _ _ => dMod_int (by decide)
  have c1 : dSl S (.scr ns) none (some 16) = some (.lst ((ns.take 16).map .int)) := by
    show some (D.lst (cutL (ns.map D.int) none (some ((16 : Nat) : Int)))) = _
    rw [cut_map, cut_to]
  have w1 : ∀ S : Sto, dPow S (.int 10) (.int 16) = some (.int (10 ^ 16)) := fun _ => rfl
  have w2 : ∀ S : Sto, dPow S (.int 10) (.int 60) = some (.int (10 ^ 60)) := fun _ => rfl
  have w3 : ∀ (S : Sto) (z : Int), dMod S (.int z) (.int 1000000000000000000000000000000000000000000000000000000000000) = some (.int (z % 1000000000000000000000000000000000000000000000000000000000000)) := fun _ _ => dMod_int (by decide)
  refine ⟨if own < 0 ∨ 10 ^ 16 ≤ own then (if own < 0 then -own else own) % 10 ^ 60 else 0, (st' * 31 + own % 2147483353 + 401) % 2147483423, ?_⟩
  unfold f_L_bowl
  show runF 6 (b_bF b_cell) [.scr ns, .int lap] S = _
  obtain ⟨B, hB⟩ : ∃ B, B = b_cell := ⟨_, rfl⟩
  rw [← hB] at e2
  rw [← hB]
  obtain ⟨bb, hbb⟩ : ∃ bb, mBody (mgName 4) B = bb := ⟨_, rfl⟩
  rw [hbb] at e2
  simp only [ev_run, ev_seq, ev_par, ev_cons, se2, ev_nil, List.replicate]
  rw [e1]
  rw [List.map_take] at e2
  have ab : dAbs S [.int own] = some (.int (if own < 0 then -own else own)) := rfl
  have ec : ∀ (m : M (List D)) (e : En) (S : Sto), mCellN m e S = (m e S).bnd fun ds S1 => .ok (.ref S1.length) (S1 ++ [.lst ds]) := fun _ _ _ => rfl
  by_cases h1 : own < 0
  · simp [m1, c1, itemsL, hbb, e2, ab, w1, w2, m2, m3, m4, w3, h1, ec]
  · by_cases h2 : 10000000000000000 ≤ own
    · simp [m1, c1, itemsL, hbb, e2, ab, w1, w2, m2, m3, m4, w3, h1, h2, ec]
    · simp [m1, c1, itemsL, hbb, e2, ab, w1, w2, m2, m3, m4, w3, h1, h2, ec]
end
end SR
set_option Elab.async false
set_option linter.all false
set_option maxRecDepth 100000
set_option maxHeartbeats 8000000
/-! PB4: the bowl laws' end: one to three bowls, each right -/
namespace SR
open PySem PySem.Spec PyProof.Rows L2 DL LamX
section
variable {S : Sto}
def lawF (R : MF) : MF := runF 2 (mRet (mCB (dAllAny fun l => l.all id) (mCons (mLsV (mLcN [1] (mRng1 (mCons (mCB (d2I fun i j => if j > i then j else i) (mCons (mC (.int 1)) (mCons (mCB (d2I fun i j => if j < i then j else i) (mCons (mCB dLen (mCons (mVar 0) (mNil))) (mCons (mC (.int 3)) (mNil)))) (mNil)))) (mNil))) (mgName 1) (mC true) (mCall 1 0 [0] 1 R (mCons (mCall 2 0 [0, 1] 2 f_L_bowl (mCons (mVar 0) (mCons (mVar 1) (mNil))) (mNil)) (mNil)) (mNil)))) (mNil))))
theorem law_bowl {R : MF} (hR : ∀ (n : Nat) (S : Sto), Bw n S → Gen n (R [.ref n] S) (· = .bl true)) (ns : List Int) : ∃ S', lawF R [.scr ns] [] = .ok (.bl true) S' := by
  unfold lawF
  obtain ⟨m, hm⟩ : ∃ m : Int, m = if (if (3 : Int) < (ns.length : Int) then 3 else (ns.length : Int)) > 1 then (if (3 : Int) < (ns.length : Int) then 3 else (ns.length : Int)) else 1 := ⟨_, rfl⟩
  have hm2 : 0 ≤ m ∧ m ≤ 3 := by rw [hm]; split <;> (try split) <;> omega
  have a1 : ∀ S : Sto, d2I (fun i j => if j < i then j else i) S [.int (ns.length : Int), .int 3] = some (.int (if (3 : Int) < (ns.length : Int) then 3 else (ns.length : Int))) := fun _ => rfl
  have a2 : ∀ S : Sto, d2I (fun i j => if j > i then j else i) S [.int 1, .int (if (3 : Int) < (ns.length : Int) then 3 else (ns.length : Int))] = some (.int m) := fun _ => by rw [hm]; rfl
  simp only [ev_run, ev_ret, ev_cb, ev_cons, ev_lsv, ev_lcn, ev_rng1, ev_c, ev_bk, ev_nil, ev_var, se1, List.replicate, List.getElem?_cons_zero, dLen_scr, ev_some, a1, a2]
  have r := rng1_int (S := []) (j := m) (by omega) (by omega)
  rw [r]
  have no : noOwn [Slot.val (D.scr ns), Slot.hid] [1] = true := rfl
  simp only [ev_some, ev_bk]
  rw [if_pos no]
  obtain ⟨ys, S', e, _, _, hy⟩ := lc_gen (I := fun _ => True) (Q := fun y => y = .bl true) (body := lcBody [1] (mgName 1) (mC true)
      (mCall 1 0 [0] 1 R (mCons (mCall 2 0 [0, 1] 2 f_L_bowl (mCons (mVar 0) (mCons (mVar 1) mNil)) mNil) mNil) mNil)
      [Slot.val (D.scr ns), Slot.hid]) (List.map (fun k : Nat => D.int (0 + (k : Int))) (List.range m.toNat)) [] [] trivial (by simp; omega) (fun d hd S _ => by
    obtain ⟨k, hk, rfl⟩ := List.mem_map.mp hd
    have hk := List.mem_range.mp hk
    obtain ⟨a, b, eb⟩ := bowl_ok (S := S) (ns := ns) (lap := 0 + (k : Int)) (by omega) (by omega)
    obtain ⟨_, S2, e2, _, rfl⟩ := hR S.length (S ++ [.lst [.int a, .int b]]) ⟨a, b, by simp⟩
    refine ⟨.bl true, S2, ?_, trivial, rfl⟩
    simp only [Int.zero_add] at eb
    simp [eb, e2])
  rw [e]
  obtain ⟨l, e3, e4⟩ := all_true hy
  refine ⟨S', ?_⟩
  have e5 : dAllAny (fun l => l.all id) S' [.lst ys] = some (.bl true) := by
    show ((toBls ys).map fun bs => D.bl (bs.all id)) = _
    rw [e3]
    simp [e4]
  simp [e5]
end
end SR
set_option Elab.async false
set_option linter.all false
set_option maxRecDepth 100000
set_option maxHeartbeats 8000000
/-! PB5: what is kept of a call -/
namespace SR
open PySem PySem.Spec PyProof.Rows L2 DL LamX
section
variable {S : Sto} {n : Nat} {e : En}
def kept (vX : Str → Pay → Option D) : Res D → Res D
  | .ok _ S1 => .ok (.tup [.str ("none" : Str), .non]) S1
  | .exn c q S1 => (match vX c q with
    | some d => .ok d S1
    | none => .stuck)
  | .stuck => .stuck
@[simp] theorem kept_ok {vX : Str → Pay → Option D} {d : D} : kept vX (.ok d S) = .ok (.tup [.str ("none" : Str), .non]) S := rfl
@[simp] theorem kept_exnS {vX : Str → Pay → Option D} {c : Str} {q : Pay} : kept vX (.exn c q S) = (match vX c q with | some d => .ok d S | none => .stuck) := rfl
theorem kept_exn {vX : Str → Pay → Option D} {c : Str} {q : Pay} {d : D} (h : vX c q = some d) : kept vX (.exn c q S) = .ok d S := by
  show (match vX c q with | some d => Res.ok d S | none => .stuck) = _
  rw [h]
theorem bw_app {l : List Cell} (h : Bw n S) : Bw n (S ++ l) := by
  obtain ⟨a, b, h⟩ := h
  refine ⟨a, b, ?_⟩
  have := (List.getElem?_eq_some_iff.mp h).1
  rw [List.getElem?_append_left this, h]
@[simp] theorem ev_callV {i np nk : Nat} {ix : List Nat} {tab : Str → Option (Nat × MF)} {ml mk : M (List D)} : mCallV i np nk ix tab ml mk e S = match e[i]? with
  | some (.val (.glo x)) => match tab x with
    | some (n, m) => mCall np nk ix n m ml mk e S
    | none => .stuck
  | _ => .stuck := rfl
end
end SR
set_option Elab.async false
set_option linter.all false
set_option maxRecDepth 100000
set_option maxHeartbeats 8000000
/-! K03P2: what is refused -/
namespace SR
open PySem PySem.Spec PyProof.Rows L2 DL LamX PP
section
variable {S : Sto} {p : Int} {n : Nat} {e : En} {a b rule start : List Int} {i j k : Nat} {r : List Int} {d : D}
@[simp] theorem ev_kept3 {mb : M D} {ds : List D} : f_L_kept_v3 (lamF e [] mb) ds S = kept vX_L_kept_v3 (mb (hideE e) S) := rfl
@[simp] theorem vX3_number {d : D} : vX_L_kept_v3 ("InvalidNumber" : Str) (some (("given" : Str), d)) = some (.tup [.str ("number" : Str), d]) := by
  unfold vX_L_kept_v3
  dsimp only
  rw [if_pos ⟨rfl, rfl⟩]
@[simp] theorem vX3_nreg {d : D} : vX_L_kept_v3 ("NotARegister" : Str) (some (("given" : Str), d)) = some (.tup [.str ("notaregister" : Str), d]) := by
  unfold vX_L_kept_v3
  dsimp only
  rw [if_neg (fun h => absurd h.1 (by decide +kernel)), if_pos ⟨rfl, rfl⟩]
@[simp] theorem vX3_rule {d : D} : vX_L_kept_v3 ("InvalidRule" : Str) (some (("index" : Str), d)) = some (.tup [.str ("rule" : Str), d]) := by
  unfold vX_L_kept_v3
  dsimp only
  rw [if_neg (fun h => absurd h.1 (by decide +kernel)), if_neg (fun h => absurd h.1 (by decide +kernel)), if_pos ⟨rfl, rfl⟩]
@[simp] theorem vX3_start {d : D} : vX_L_kept_v3 ("InvalidStart" : Str) (some (("index" : Str), d)) = some (.tup [.str ("start" : Str), d]) := by
  unfold vX_L_kept_v3
  dsimp only
  rw [if_neg (fun h => absurd h.1 (by decide +kernel)), if_neg (fun h => absurd h.1 (by decide +kernel)), if_neg (fun h => absurd h.1 (by decide +kernel)), if_pos ⟨rfl, rfl⟩]
@[simp] theorem shp_register : SeqAt.shaped (.str ("register" : Str)) = true := by decide +kernel
abbrev tab3 : Str → Option (Nat × MF) := tabF [(("row_of" : Str), 2, f_row_of), (("value_at" : Str), 2, f_value_at), (("state_at" : Str), 2, f_state_at)]
@[simp] theorem t3_row : tab3 ("row_of" : Str) = some (2, f_row_of) := by
  unfold tab3 tabF
  rw [List.find?_cons]
  simp
@[simp] theorem t3_value : tab3 ("value_at" : Str) = some (2, f_value_at) := by
  unfold tab3 tabF
  have h : ((("row_of" : Str)) == ("value_at" : Str)) = false := by decide +kernel
  rw [List.find?_cons, h, List.find?_cons]
  simp
@[simp] theorem t3_state : tab3 ("state_at" : Str) = some (2, f_state_at) := by
  unfold tab3 tabF
  have h : ((("row_of" : Str)) == ("state_at" : Str)) = false := by decide +kernel
  have h2 : ((("value_at" : Str)) == ("state_at" : Str)) = false := by decide +kernel
  rw [List.find?_cons, h, List.find?_cons, h2, List.find?_cons]
  simp
def noneL (p : Int) (rule start : List Int) : List D := [.non, .int 3, parts p rule start, tI rule, .lst [], .emp, .bl true, .str ("register" : Str)]
theorem none_ok (h : Rg p rule start) : ∀ d ∈ noneL p rule start, (∃ t, tyName d = some t) ∧ ∀ k, Sm (k + 3) d := by
  have hl := h.len
  have hm := h.most
  intro d hd
  simp only [noneL, List.mem_cons, List.not_mem_nil, or_false] at hd
  rcases hd with rfl | rfl | rfl | rfl | rfl | rfl | rfl | rfl <;> refine ⟨⟨_, rfl⟩, fun k => ?_⟩ <;> simp <;> omega
def farL : List D := [.non, .int (-1), .bl true, .str ("1" : Str), .int 1000000000000000001, .tup [.int 1]]
theorem far_ok : ∀ d ∈ farL, Pl d ∧ fromD d 0 1000000000000000000 = false ∧ ∀ k, Sm (k + 3) d := by
  intro d hd
  simp only [farL, List.mem_cons, List.not_mem_nil, or_false] at hd
  rcases hd with rfl | rfl | rfl | rfl | rfl | rfl <;> refine ⟨(fun z => by cases z), ?_, fun k => by simp⟩ <;> first | rfl | (simp [fromD]; done)
/-- a call of a table, with what is no register, with an ill number -/
structure Cl (p : Int) (rule start : List Int) (F : MF) (most : D) : Prop where
  c1 : ∀ d x t S, tyName d = some t → F [d, x] S = .exn ("NotARegister" : Str) (some (("given" : Str), d)) S
  c2 : ∀ S, F [rgO p rule start, most] S = .exn ("InvalidNumber" : Str) (some (("given" : Str), most)) S
  c3 : ∀ S, F [rgO p rule start, .non] S = .exn ("InvalidNumber" : Str) (some (("given" : Str), .non)) S
theorem cl_row : Cl p rule start f_row_of (.int 61) := ⟨fun d x t S h => row_of_noreg h, fun S => row_of_nonum (fun z => by cases z) (by simp [fromD]), fun S => row_of_nonum (fun z => by cases z) rfl⟩
theorem cl_value {m : D} (hm : m ∈ farL) : Cl p rule start f_value_at m := ⟨fun d x t S h => value_at_noreg h, fun S => value_at_nonum (far_ok m hm).1 (far_ok m hm).2.1, fun S => value_at_nonum (fun z => by cases z) rfl⟩
theorem cl_state {m : D} (hm : m ∈ farL) : Cl p rule start f_state_at m := ⟨fun d x t S h => state_at_noreg h, fun S => state_at_nonum (far_ok m hm).1 (far_ok m hm).2.1, fun S => state_at_nonum (fun z => by cases z) rfl⟩
theorem call3 {nm : Str} {F : MF} {most none : D} {s0 s1 s2 s3 s5 s6 s7 s8 s9 s10 s11 s12 s14 s15 s16 s17 s18 : Slot} {t : String} (ht : tab3 nm = some (2, F)) (C : Cl p rule start F most) (h1 : tyName none = some t) (h2 : ∀ k, Sm (k + 3) none) (h3 : ∀ k, Sm (k + 3) most) : ∃ t12,
    mBody (mgTup 2 (mgCons (mgName 15) (mgCons (mgName 16) (mgNil)))) (mSeq (mSet 12 (mTup (mCons (mLamC 0 [] (mCallV 15 2 0 [0, 1] (tabF [(("row_of" : Str), 2, f_row_of), (("value_at" : Str), 2, f_value_at), (("state_at" : Str), 2, f_state_at)]) (mCons (mVar 13) (mCons (mVar 16) (mNil))) (mNil)) f_L_kept_v3 (mNil)) (mNil)))) (mSeq (mSet 12 (mOp dAdd (mVar 12) (mTup (mCons (mLamC 0 [] (mCallV 15 2 0 [0, 1] (tabF [(("row_of" : Str), 2, f_row_of), (("value_at" : Str), 2, f_value_at), (("state_at" : Str), 2, f_state_at)]) (mCons (mVar 4) (mCons (mVar 16) (mNil))) (mNil)) f_L_kept_v3 (mNil)) (mNil))))) (mSeq (mSet 12 (mOp dAdd (mVar 12) (mTup (mCons (mLamC 0 [] (mCallV 15 2 0 [0, 1] (tabF [(("row_of" : Str), 2, f_row_of), (("value_at" : Str), 2, f_value_at), (("state_at" : Str), 2, f_state_at)]) (mCons (mVar 4) (mCons (mC .non) (mNil))) (mNil)) f_L_kept_v3 (mNil)) (mNil))))) (mIfS (mNotT (mTest (mCall 2 0 [0, 1] 2 (f_L_same 8) (mCons (mVar 12) (mCons (mTup (mCons (mTup (mCons (mC (.str ("notaregister" : Str))) (mCons (mVar 13) (mNil)))) (mCons (mTup (mCons (mC (.str ("number" : Str))) (mCons (mVar 16) (mNil)))) (mCons (mTup (mCons (mC (.str ("number" : Str))) (mCons (mC .non) (mNil)))) (mNil))))) (mNil))) (mNil)))) (mRet (mC (.bl false))) (mNext)))))
      (.tup [.glo nm, most]) [s0, s1, s2, s3, .val (rgO p rule start), s5, s6, s7, s8, s9, s10, s11, s12, .val none, s14, s15, s16, s17, s18] S = .nx [s0, s1, s2, s3, .val (rgO p rule start), s5, s6, s7, s8, s9, s10, s11, t12, .val none, s14, .val (.glo nm), .val most, s17, s18] S := by
  have c1 := fun S x => C.c1 none x t S h1
  have ht' : tabF [(("row_of" : Str), 2, f_row_of), (("value_at" : Str), 2, f_value_at), (("state_at" : Str), 2, f_state_at)] nm = some (2, F) := ht
  have z3 : ∀ (S : Sto) (x y z : D), dAdd S (.tup [x, y]) (.tup [z]) = some (.tup [x, y, z]) := fun _ _ _ _ => rfl
  have z4 : ∀ (S : Sto) (x y : D), dAdd S (.tup [x]) (.tup [y]) = some (.tup [x, y]) := fun _ _ _ => rfl
  have sa : ∀ S : Sto, f_L_same 8 [.tup [.tup [.str ("notaregister" : Str), none], .tup [.str ("number" : Str), most], .tup [.str ("number" : Str), .non]], .tup [.tup [.str ("notaregister" : Str), none], .tup [.str ("number" : Str), most], .tup [.str ("number" : Str), .non]]] S = .ok (.bl true) S := fun S => same_sm (by have := h2 3; have := h3 3; simp at *; simp [*])
  exact ⟨_, by simp [hide_cons, hideS, ht', c1, C.c2, C.c3, z3, z4, sa]; rfl⟩
end
end SR
set_option Elab.async false
set_option linter.all false
set_option maxRecDepth 100000
set_option maxHeartbeats 8000000
/-! K03P3: right, statement by statement -/
namespace SR
open PySem PySem.Spec PyProof.Rows L2 DL LamX PP
section
variable {S : Sto} {p : Int} {n : Nat} {e : En} {a b rule start : List Int} {i j k : Nat} {r : List Int} {d x odd bad at_ ill to_ none far : D}
variable {s0 s1 s2 s3 s4 s5 s6 s7 s8 s9 s10 s11 s12 s13 s14 s15 s16 s17 s18 : Slot}
theorem seq_nx {A B : MS} {e e' : En} {S S' : Sto} (h : A e S = .nx e' S') : mSeq A B e S = B e' S' := by
  simp [h]
noncomputable def b0 : MS := mSeq (mSet 3 (mCall 3 0 [0, 1, 2] 3 f_L_register (mCons (mVar 0) (mCons (mVar 1) (mCons (mC (.int 10)) (mNil)))) (mNil))) (mIfS (mNotT (mTest (mCall 2 0 [0, 1] 2 f_L_register_right (mCons (mVar 0) (mCons (mVar 3) (mNil))) (mNil)))) (mRet (mC (.bl false))) (mNext))
noncomputable def q1 : MS := mAsg (mTup (mCons (mCall 1 0 [0] 1 f_L_made (mCons (mVar 3) (mNil)) (mNil)) (mCons (mOp dIx (mVar 3) (mC (.int 1))) (mCons (mOp dIx (mVar 3) (mC (.int 2))) (mNil))))) (mgTup 3 (mgCons (mgName 4) (mgCons (mgName 5) (mgCons (mgName 6) (mgNil)))))
noncomputable def q2 : MS := mAsg (mTup (mCons (mCall 1 0 [0] 1 f_L_odd_modulus (mCons (mVar 0) (mNil)) (mNil)) (mCons (mCall 4 0 [0, 1, 2, 3] 4 f_L_odd_values (mCons (mVar 0) (mCons (mVar 1) (mCons (mVar 5) (mCons (mC (.int 10)) (mNil))))) (mNil)) (mCons (mCall 4 0 [0, 1, 2, 3] 4 f_L_odd_values (mCons (mVar 0) (mCons (mVar 1) (mCons (mVar 6) (mCons (mCB dLen (mCons (mVar 6) (mNil))) (mNil))))) (mNil)) (mNil))))) (mgTup 3 (mgCons (mgName 7) (mgCons (mgTup 2 (mgCons (mgName 8) (mgCons (mgName 9) (mgNil)))) (mgCons (mgTup 2 (mgCons (mgName 10) (mgCons (mgName 11) (mgNil)))) (mgNil)))))
noncomputable def q3 : MS := mSet 11 (mIf (mAndT (mTest (mUn (dIsi "tuple") (mVar 10))) (mTest (mOp (dCmp fun i j => decide (i < j)) (mCB dLen (mCons (mVar 10) (mNil))) (mCB dLen (mCons (mVar 6) (mNil)))))) (mC .non) (mVar 11))
noncomputable def q4 : MS := mSet 12 (mTup (mCons (mLamC 0 [] (mMake ("Register" : Str) 3 0 [0, 1, 2, 3] 4 f_Register___init__ (mCons (mVar 7) (mCons (mVar 8) (mCons (mVar 10) (mNil)))) (mNil)) f_L_kept_v3 (mNil)) (mNil)))
noncomputable def q5 : MS := mSet 12 (mOp dAdd (mVar 12) (mTup (mCons (mLamC 0 [] (mMake ("Register" : Str) 3 0 [0, 1, 2, 3] 4 f_Register___init__ (mCons (mVar 1) (mCons (mVar 8) (mCons (mVar 10) (mNil)))) (mNil)) f_L_kept_v3 (mNil)) (mNil))))
noncomputable def q6 : MS := mSet 12 (mOp dAdd (mVar 12) (mTup (mCons (mLamC 0 [] (mMake ("Register" : Str) 3 0 [0, 1, 2, 3] 4 f_Register___init__ (mCons (mVar 1) (mCons (mVar 5) (mCons (mVar 10) (mNil)))) (mNil)) f_L_kept_v3 (mNil)) (mNil))))
noncomputable def q7 : MS := mSet 12 (mOp dAdd (mVar 12) (mTup (mCons (mLamC 0 [] (mMake ("Register" : Str) 0 (List.length [("start" : Str), ("rule" : Str), ("modulus" : Str)]) [0, 3, 2, 1] 4 f_Register___init__ (mNil) (mCons (mVar 10) (mCons (mVar 5) (mCons (mVar 1) (mNil))))) f_L_kept_v3 (mNil)) (mNil))))
noncomputable def q8 : MS := mSet 12 (mOp dAdd (mVar 12) (mTup (mCons (mLamC 0 [] (mMake ("Register" : Str) 3 0 [0, 1, 2, 3] 4 f_Register___init__ (mCons (mVar 1) (mCons (mOp dMul (mTup (mCons (mC (.int 1)) (mNil))) (mC (.int 11))) (mCons (mOp dMul (mTup (mCons (mC (.int 0)) (mNil))) (mC (.int 11))) (mNil)))) (mNil)) f_L_kept_v3 (mNil)) (mNil))))
noncomputable def q9 : MS := mSet 12 (mOp dAdd (mVar 12) (mTup (mCons (mLamC 0 [] (mMake ("Register" : Str) 3 0 [0, 1, 2, 3] 4 f_Register___init__ (mCons (mVar 1) (mCons (mTup (mCons (mC (.int 1)) (mCons (mC (.int 0)) (mCons (mC (.int 1)) (mNil))))) (mCons (mTup (mCons (mC (.int 0)) (mCons (mC (.int 1)) (mNil)))) (mNil)))) (mNil)) f_L_kept_v3 (mNil)) (mNil))))
noncomputable def q10 : MS := mIfS (mNotT (mTest (mCall 2 0 [0, 1] 2 (f_L_same 8) (mCons (mVar 12) (mCons (mTup (mCons (mTup (mCons (mC (.str ("number" : Str))) (mCons (mVar 7) (mNil)))) (mCons (mTup (mCons (mC (.str ("rule" : Str))) (mCons (mVar 9) (mNil)))) (mCons (mTup (mCons (mC (.str ("start" : Str))) (mCons (mVar 11) (mNil)))) (mCons (mTup (mCons (mC (.str ("start" : Str))) (mCons (mVar 11) (mNil)))) (mCons (mTup (mCons (mC (.str ("rule" : Str))) (mCons (mC (.int 10)) (mNil)))) (mCons (mTup (mCons (mC (.str ("start" : Str))) (mCons (mC .non) (mNil)))) (mNil)))))))) (mNil))) (mNil)))) (mRet (mC (.bl false))) (mNext)
noncomputable def q11 : MS := mAsg (mTup (mCons (mCall 2 0 [0, 1] 2 f_L_of (mCons (mVar 0) (mCons (mTup (mCons (mC .non) (mCons (mC (.int 3)) (mCons (mVar 3) (mCons (mVar 5) (mCons (mLsV (mNewL (mNil))) (mCons (mC .emp) (mCons (mC (.bl true)) (mCons (mC (.str ("register" : Str))) (mNil)))))))))) (mNil))) (mNil)) (mCons (mCall 2 0 [0, 1] 2 f_L_of (mCons (mVar 0) (mCons (mTup (mCons (mC .non) (mCons (mOp dSub (mC (.int 0)) (mC (.int 1))) (mCons (mC (.bl true)) (mCons (mC (.str ("1" : Str))) (mCons (mOp dAdd (mOp dPow (mC (.int 10)) (mC (.int 18))) (mC (.int 1))) (mCons (mTup (mCons (mC (.int 1)) (mNil))) (mNil)))))))) (mNil))) (mNil)) (mNil)))) (mgTup 2 (mgCons (mgName 13) (mgCons (mgName 14) (mgNil))))
noncomputable def q12 : MS := mFor (mItems (mTup (mCons (mTup (mCons (mC (.glo ("row_of" : Str))) (mCons (mC (.int 61)) (mNil)))) (mCons (mTup (mCons (mC (.glo ("value_at" : Str))) (mCons (mVar 14) (mNil)))) (mCons (mTup (mCons (mC (.glo ("state_at" : Str))) (mCons (mVar 14) (mNil)))) (mNil)))))) (mgTup 2 (mgCons (mgName 15) (mgCons (mgName 16) (mgNil)))) (mSeq (mSet 12 (mTup (mCons (mLamC 0 [] (mCallV 15 2 0 [0, 1] (tabF [(("row_of" : Str), 2, f_row_of), (("value_at" : Str), 2, f_value_at), (("state_at" : Str), 2, f_state_at)]) (mCons (mVar 13) (mCons (mVar 16) (mNil))) (mNil)) f_L_kept_v3 (mNil)) (mNil)))) (mSeq (mSet 12 (mOp dAdd (mVar 12) (mTup (mCons (mLamC 0 [] (mCallV 15 2 0 [0, 1] (tabF [(("row_of" : Str), 2, f_row_of), (("value_at" : Str), 2, f_value_at), (("state_at" : Str), 2, f_state_at)]) (mCons (mVar 4) (mCons (mVar 16) (mNil))) (mNil)) f_L_kept_v3 (mNil)) (mNil))))) (mSeq (mSet 12 (mOp dAdd (mVar 12) (mTup (mCons (mLamC 0 [] (mCallV 15 2 0 [0, 1] (tabF [(("row_of" : Str), 2, f_row_of), (("value_at" : Str), 2, f_value_at), (("state_at" : Str), 2, f_state_at)]) (mCons (mVar 4) (mCons (mC .non) (mNil))) (mNil)) f_L_kept_v3 (mNil)) (mNil))))) (mIfS (mNotT (mTest (mCall 2 0 [0, 1] 2 (f_L_same 8) (mCons (mVar 12) (mCons (mTup (mCons (mTup (mCons (mC (.str ("notaregister" : Str))) (mCons (mVar 13) (mNil)))) (mCons (mTup (mCons (mC (.str ("number" : Str))) (mCons (mVar 16) (mNil)))) (mCons (mTup (mCons (mC (.str ("number" : Str))) (mCons (mC .non) (mNil)))) (mNil))))) (mNil))) (mNil)))) (mRet (mC (.bl false))) (mNext)))))
noncomputable def bT : MS := mSeq q1 ( mSeq q2 ( mSeq q3 ( mSeq q4 ( mSeq q5 ( mSeq q6 ( mSeq q7 ( mSeq q8 ( mSeq q9 ( mSeq q10 ( mSeq q11 (q12)))))))))))
noncomputable def bB : MS := mSeq (mFor (mRng1 (mCons (mC (.int 3)) (mNil))) (mgName 2) b0) bT
noncomputable def q13 : MS := mPar 17 18 (mCons (mMake ("Register" : Str) 3 0 [0, 1, 2, 3] 4 f_Register___init__ (mCons (mC (.int 5)) (mCons (mTup (mCons (mC (.int 1)) (mCons (mC (.int 1)) (mNil)))) (mCons (mTup (mCons (mC (.int 0)) (mCons (mC (.int 1)) (mNil)))) (mNil)))) (mNil)) (mCons (mMake ("Register" : Str) 3 0 [0, 1, 2, 3] 4 f_Register___init__ (mCons (mC (.int 2)) (mCons (mTup (mCons (mC (.int 1)) (mCons (mC (.int 1)) (mCons (mC (.int 0)) (mNil))))) (mCons (mTup (mCons (mC (.int 0)) (mCons (mC (.int 0)) (mCons (mC (.int 1)) (mNil))))) (mNil)))) (mNil)) (mNil)))
noncomputable def q14 : MS := mRet (mCall 2 0 [0, 1] 2 (f_L_same 8) (mCons (mTup (mCons (mCall 2 0 [0, 1] 2 f_row_of (mCons (mVar 17) (mCons (mC (.int 10)) (mNil))) (mNil)) (mCons (mCall 2 0 [0, 1] 2 f_row_of (mCons (mVar 18) (mCons (mC (.int 10)) (mNil))) (mNil)) (mCons (mCall 2 0 [0, 1] 2 f_state_at (mCons (mVar 17) (mCons (mC (.int 4)) (mNil))) (mNil)) (mCons (mCall 2 0 [0, 1] 2 f_value_at (mCons (mMake ("Register" : Str) 3 0 [0, 1, 2, 3] 4 f_Register___init__ (mCons (mC (.int 3)) (mCons (mTup (mNil)) (mCons (mTup (mNil)) (mNil)))) (mNil)) (mCons (mC (.int 5)) (mNil))) (mNil)) (mNil)))))) (mCons (mTup (mCons (mTup (mCons (mC (.int 0)) (mCons (mC (.int 1)) (mCons (mC (.int 1)) (mCons (mC (.int 2)) (mCons (mC (.int 3)) (mCons (mC (.int 0)) (mCons (mC (.int 3)) (mCons (mC (.int 3)) (mCons (mC (.int 1)) (mCons (mC (.int 4)) (mNil)))))))))))) (mCons (mTup (mCons (mC (.int 0)) (mCons (mC (.int 0)) (mCons (mC (.int 1)) (mCons (mC (.int 0)) (mCons (mC (.int 1)) (mCons (mC (.int 1)) (mCons (mC (.int 1)) (mCons (mC (.int 0)) (mCons (mC (.int 0)) (mCons (mC (.int 1)) (mNil)))))))))))) (mCons (mTup (mCons (mC (.int 3)) (mCons (mC (.int 0)) (mNil)))) (mCons (mC (.int 0)) (mNil)))))) (mNil))) (mNil))
theorem lap_ok (h : Pm p) (hb : Bw n S) : ∃ S' rule start, mBody (mgName 2) b0 x [.val (.ref n), .val (.int p), s2, s3, s4, s5, s6, s7, s8, s9, s10, s11, s12, s13, s14, s15, s16, s17, s18] S = .nx [.val (.ref n), .val (.int p), .val x, .val (parts p rule start), s4, s5, s6, s7, s8, s9, s10, s11, s12, s13, s14, s15, s16, s17, s18] S' ∧ Bw n S' ∧ Rg p rule start := by
  obtain ⟨_, S1, e1, b1, rule, start, rfl, R⟩ := register_gen (n := n) (S := S) (p := p) h hb
  obtain ⟨_, S2, e2, b2, rfl⟩ := register_right (n := n) (S := S1) R b1
  refine ⟨S2, rule, start, ?_, b2, R⟩
  unfold b0
  simp [e1, e2]
theorem q1_ok (R : Rg p rule start) : q1 [.val (.ref n), .val (.int p), s2, .val (parts p rule start), s4, s5, s6, s7, s8, s9, s10, s11, s12, s13, s14, s15, s16, s17, s18] S = .nx [.val (.ref n), .val (.int p), s2, .val (parts p rule start), .val (rgO p rule start), .val (tI rule), .val (tI start), s7, s8, s9, s10, s11, s12, s13, s14, s15, s16, s17, s18] S := by
  have m1 := fun S : Sto => made_ok (S := S) R
  have x1 : ∀ S : Sto, dIx S (parts p rule start) (.int 1) = some (tI rule) := fun _ => rfl
  have x2 : ∀ S : Sto, dIx S (parts p rule start) (.int 2) = some (tI start) := fun _ => rfl
  unfold q1
  simp [m1, x1, x2]
/-- what is ill -/
structure IllK (p : Int) (rule start : List Int) (odd bad at_ ill to_ : D) : Prop where
  o1 : Pl odd
  o2 : ∀ k, Sm (k + 2) odd
  o3 : goodM odd = false
  r1 : PlL bad
  r2 : illD p 10 bad = some at_
  r3 : IxD at_
  t1 : PlL ill
  t2 : illD p start.length ill = some to_
  t3 : IxD to_
theorem q2_ok (R : Rg p rule start) (hb : Bw n S) : ∃ odd bad at_ ill to_ S', q2 [.val (.ref n), .val (.int p), s2, .val (parts p rule start), .val (rgO p rule start), .val (tI rule), .val (tI start), s7, s8, s9, s10, s11, s12, s13, s14, s15, s16, s17, s18] S = .nx [.val (.ref n), .val (.int p), s2, .val (parts p rule start), .val (rgO p rule start), .val (tI rule), .val (tI start), .val odd, .val bad, .val at_, .val ill, .val to_, s12, s13, s14, s15, s16, s17, s18] S' ∧ Bw n S' ∧ IllK p rule start odd bad at_ ill to_ := by
  have hm := R.most
  have hl := R.len
  have hp := R.m.rng
  obtain ⟨odd, S1, e1, b1, ho⟩ := oddm_gen (n := n) (S := S) hb
  obtain ⟨_, S2, e2, b2, bad, at_, rfl, r1, r2, r3⟩ := oddv_gen (n := n) (S := S1) (p := p) (row := rule) (M := 10) (by omega) (by omega) (by omega) R.rr b1
  obtain ⟨_, S3, e3, b3, ill, to_, rfl, t1, t2, t3⟩ := oddv_gen (n := n) (S := S2) (p := p) (row := start) (M := start.length) (by omega) (by omega) (by omega) R.rs b2
  have o := odd_ms odd ho
  have e2 : f_L_odd_values [.ref n, .int p, tI rule, .int 10] S1 = .ok (.tup [bad, at_]) S2 := e2
  refine ⟨odd, bad, at_, ill, to_, S3, ?_, b3, ⟨o.1, o.2.1, o.2.2, r1, r2, r3, t1, t2, t3⟩⟩
  unfold q2
  simp [e1, e2, e3]
theorem q3_ok (K : IllK p rule start odd bad at_ ill to_) : ∃ to', q3 [.val (.ref n), .val (.int p), s2, .val (parts p rule start), .val (rgO p rule start), .val (tI rule), .val (tI start), .val odd, .val bad, .val at_, .val ill, .val to_, s12, s13, s14, s15, s16, s17, s18] S = .nx [.val (.ref n), .val (.int p), s2, .val (parts p rule start), .val (rgO p rule start), .val (tI rule), .val (tI start), .val odd, .val bad, .val at_, .val ill, (.val to'), s12, s13, s14, s15, s16, s17, s18] S ∧ IxD to' ∧ illS p start.length ill = some to' := by
  have t1 := K.t1
  have t2 := K.t2
  have t3 := K.t3
  unfold q3
  cases ill with
  | tup ds =>
    have is : ∀ S : Sto, dIsi "tuple" S (.tup ds) = some (.bl true) := fun S => isi_tup (fun z => by cases z)
    by_cases hl : ds.length < start.length
    · refine ⟨.non, by simp [is, hl], .inl rfl, ?_⟩
      unfold illS
      dsimp only
      rw [if_pos hl]
    · refine ⟨to_, by simp [is, hl], t3, ?_⟩
      unfold illS
      dsimp only
      rw [if_neg hl]
      exact t2
  | _ =>
    first
    | exact absurd rfl t1
    | refine ⟨to_, by simp [isi_tup t1, isTupD], t3, ?_⟩
      exact t2
theorem ill11 (h : Pm p) : illD p 10 (tI [1, 1, 1, 1, 1, 1, 1, 1, 1, 1, 1]) = some (.int 10) := by
  have hp := h.rng
  show (illL p (10 : Nat) 0 ((List.replicate 10 (1 : Int)).map D.int ++ D.int 1 :: [])).map _ = _
  rw [ill_preM (by simp) (fun y hy => by have := (List.mem_replicate.mp hy).2; omega) (.inr (by simp))]
  rfl
theorem q4_ok (R : Rg p rule start) (K : IllK p rule start odd bad at_ ill to2) (hs : illS p start.length ill = some to_) : q4 [.val (.ref n), .val (.int p), s2, .val (parts p rule start), .val (rgO p rule start), .val (tI rule), .val (tI start), .val odd, .val bad, .val at_, .val ill, .val to_, s12, s13, s14, s15, s16, s17, s18] S = .nx [.val (.ref n), .val (.int p), s2, .val (parts p rule start), .val (rgO p rule start), .val (tI rule), .val (tI start), .val odd, .val bad, .val at_, .val ill, .val to_, .val (.tup [.tup [.str ("number" : Str), odd]]), s13, s14, s15, s16, s17, s18] (S ++ [.ins ("Register" : Str) []]) := by
  have mk : ∀ S, finObj S (f_Register___init__ [.ref S.length, odd, bad, ill] (S ++ [.ins ("Register" : Str) []])) = .exn ("InvalidNumber" : Str) (some (("given" : Str), odd)) (S ++ [.ins ("Register" : Str) []]) := fun S => mk_number K.o1 K.o3
  unfold q4
  simp [hide_cons, hideS, mk]
theorem q5_ok (R : Rg p rule start) (K : IllK p rule start odd bad at_ ill to2) (hs : illS p start.length ill = some to_) : q5 [.val (.ref n), .val (.int p), s2, .val (parts p rule start), .val (rgO p rule start), .val (tI rule), .val (tI start), .val odd, .val bad, .val at_, .val ill, .val to_, .val (.tup [.tup [.str ("number" : Str), odd]]), s13, s14, s15, s16, s17, s18] S = .nx [.val (.ref n), .val (.int p), s2, .val (parts p rule start), .val (rgO p rule start), .val (tI rule), .val (tI start), .val odd, .val bad, .val at_, .val ill, .val to_, .val (.tup [.tup [.str ("number" : Str), odd], .tup [.str ("rule" : Str), at_]]), s13, s14, s15, s16, s17, s18] (S ++ [.ins ("Register" : Str) []]) := by
  have mk : ∀ S, finObj S (f_Register___init__ [.ref S.length, .int p, bad, ill] (S ++ [.ins ("Register" : Str) []])) = .exn ("InvalidRule" : Str) (some (("index" : Str), at_)) (S ++ [.ins ("Register" : Str) []]) := fun S => mk_rule R.m K.r1 K.r2
  have z : ∀ (S : Sto) (x t : D), dAdd S (.tup [x]) (.tup [t]) = some (.tup [x, t]) := fun _ _ _ => rfl
  unfold q5
  simp [hide_cons, hideS, mk, z]
theorem q6_ok (R : Rg p rule start) (K : IllK p rule start odd bad at_ ill to2) (hs : illS p start.length ill = some to_) : q6 [.val (.ref n), .val (.int p), s2, .val (parts p rule start), .val (rgO p rule start), .val (tI rule), .val (tI start), .val odd, .val bad, .val at_, .val ill, .val to_, .val (.tup [.tup [.str ("number" : Str), odd], .tup [.str ("rule" : Str), at_]]), s13, s14, s15, s16, s17, s18] S = .nx [.val (.ref n), .val (.int p), s2, .val (parts p rule start), .val (rgO p rule start), .val (tI rule), .val (tI start), .val odd, .val bad, .val at_, .val ill, .val to_, .val (.tup [.tup [.str ("number" : Str), odd], .tup [.str ("rule" : Str), at_], .tup [.str ("start" : Str), to_]]), s13, s14, s15, s16, s17, s18] (S ++ [.ins ("Register" : Str) []]) := by
  have mk : ∀ S, finObj S (f_Register___init__ [.ref S.length, .int p, tI rule, ill] (S ++ [.ins ("Register" : Str) []])) = .exn ("InvalidStart" : Str) (some (("index" : Str), to_)) (S ++ [.ins ("Register" : Str) []]) := fun S => mk_start R.m R.rr R.most K.t1 (by rw [R.len]; exact hs)
  have z : ∀ (S : Sto) (x y t : D), dAdd S (.tup [x, y]) (.tup [t]) = some (.tup [x, y, t]) := fun _ _ _ _ => rfl
  unfold q6
  simp [hide_cons, hideS, mk, z]
theorem q7_ok (R : Rg p rule start) (K : IllK p rule start odd bad at_ ill to2) (hs : illS p start.length ill = some to_) : q7 [.val (.ref n), .val (.int p), s2, .val (parts p rule start), .val (rgO p rule start), .val (tI rule), .val (tI start), .val odd, .val bad, .val at_, .val ill, .val to_, .val (.tup [.tup [.str ("number" : Str), odd], .tup [.str ("rule" : Str), at_], .tup [.str ("start" : Str), to_]]), s13, s14, s15, s16, s17, s18] S = .nx [.val (.ref n), .val (.int p), s2, .val (parts p rule start), .val (rgO p rule start), .val (tI rule), .val (tI start), .val odd, .val bad, .val at_, .val ill, .val to_, .val (.tup [.tup [.str ("number" : Str), odd], .tup [.str ("rule" : Str), at_], .tup [.str ("start" : Str), to_], .tup [.str ("start" : Str), to_]]), s13, s14, s15, s16, s17, s18] (S ++ [.ins ("Register" : Str) []]) := by
  have mk : ∀ S, finObj S (f_Register___init__ [.ref S.length, .int p, tI rule, ill] (S ++ [.ins ("Register" : Str) []])) = .exn ("InvalidStart" : Str) (some (("index" : Str), to_)) (S ++ [.ins ("Register" : Str) []]) := fun S => mk_start R.m R.rr R.most K.t1 (by rw [R.len]; exact hs)
  have z : ∀ (S : Sto) (x y z t : D), dAdd S (.tup [x, y, z]) (.tup [t]) = some (.tup [x, y, z, t]) := fun _ _ _ _ _ => rfl
  unfold q7
  simp [hide_cons, hideS, mk, z]
theorem q8_ok (R : Rg p rule start) (K : IllK p rule start odd bad at_ ill to2) (hs : illS p start.length ill = some to_) : q8 [.val (.ref n), .val (.int p), s2, .val (parts p rule start), .val (rgO p rule start), .val (tI rule), .val (tI start), .val odd, .val bad, .val at_, .val ill, .val to_, .val (.tup [.tup [.str ("number" : Str), odd], .tup [.str ("rule" : Str), at_], .tup [.str ("start" : Str), to_], .tup [.str ("start" : Str), to_]]), s13, s14, s15, s16, s17, s18] S = .nx [.val (.ref n), .val (.int p), s2, .val (parts p rule start), .val (rgO p rule start), .val (tI rule), .val (tI start), .val odd, .val bad, .val at_, .val ill, .val to_, .val (.tup [.tup [.str ("number" : Str), odd], .tup [.str ("rule" : Str), at_], .tup [.str ("start" : Str), to_], .tup [.str ("start" : Str), to_], .tup [.str ("rule" : Str), .int 10]]), s13, s14, s15, s16, s17, s18] (S ++ [.ins ("Register" : Str) []]) := by
  have mk : ∀ S, finObj S (f_Register___init__ [.ref S.length, .int p, tI [1, 1, 1, 1, 1, 1, 1, 1, 1, 1, 1], tI [0, 0, 0, 0, 0, 0, 0, 0, 0, 0, 0]] (S ++ [.ins ("Register" : Str) []])) = .exn ("InvalidRule" : Str) (some (("index" : Str), .int 10)) (S ++ [.ins ("Register" : Str) []]) := fun S => mk_rule R.m plL_tI (ill11 R.m)
  have m1 : ∀ S : Sto, dMul S (.tup [.int 1]) (.int 11) = some (tI [1, 1, 1, 1, 1, 1, 1, 1, 1, 1, 1]) := fun S => rep1 (by omega) (by omega)
  have m0 : ∀ S : Sto, dMul S (.tup [.int 0]) (.int 11) = some (tI [0, 0, 0, 0, 0, 0, 0, 0, 0, 0, 0]) := fun S => rep1 (by omega) (by omega)
  have z : ∀ (S : Sto) (x y z u t : D), dAdd S (.tup [x, y, z, u]) (.tup [t]) = some (.tup [x, y, z, u, t]) := fun _ _ _ _ _ _ => rfl
  unfold q8
  simp [hide_cons, hideS, mk, z, m1, m0]
theorem q9_ok (R : Rg p rule start) (K : IllK p rule start odd bad at_ ill to2) (hs : illS p start.length ill = some to_) : q9 [.val (.ref n), .val (.int p), s2, .val (parts p rule start), .val (rgO p rule start), .val (tI rule), .val (tI start), .val odd, .val bad, .val at_, .val ill, .val to_, .val (.tup [.tup [.str ("number" : Str), odd], .tup [.str ("rule" : Str), at_], .tup [.str ("start" : Str), to_], .tup [.str ("start" : Str), to_], .tup [.str ("rule" : Str), .int 10]]), s13, s14, s15, s16, s17, s18] S = .nx [.val (.ref n), .val (.int p), s2, .val (parts p rule start), .val (rgO p rule start), .val (tI rule), .val (tI start), .val odd, .val bad, .val at_, .val ill, .val to_, .val (.tup [.tup [.str ("number" : Str), odd], .tup [.str ("rule" : Str), at_], .tup [.str ("start" : Str), to_], .tup [.str ("start" : Str), to_], .tup [.str ("rule" : Str), .int 10], .tup [.str ("start" : Str), .non]]), s13, s14, s15, s16, s17, s18] (S ++ [.ins ("Register" : Str) []]) := by
  have mk : ∀ S, finObj S (f_Register___init__ [.ref S.length, .int p, .tup [.int 1, .int 0, .int 1], .tup [.int 0, .int 1]] (S ++ [.ins ("Register" : Str) []])) = .exn ("InvalidStart" : Str) (some (("index" : Str), .non)) (S ++ [.ins ("Register" : Str) []]) := fun S => mk_start (rule := [1, 0, 1]) R.m (fun x hx => by have := R.m.rng; simp at hx; omega) (by simp) (plL_tI (l := [0, 1])) rfl
  have z : ∀ (S : Sto) (x y z u v t : D), dAdd S (.tup [x, y, z, u, v]) (.tup [t]) = some (.tup [x, y, z, u, v, t]) := fun _ _ _ _ _ _ _ => rfl
  unfold q9
  simp [hide_cons, hideS, mk, z]
theorem ix_sm {d : D} (h : IxD d) (k : Nat) : Sm (k + 1) d := by
  rcases h with rfl | ⟨i, rfl⟩ <;> simp
theorem q10_ok (K : IllK p rule start odd bad at_ ill to2) (hx : IxD to_) : q10 [.val (.ref n), .val (.int p), s2, .val (parts p rule start), .val (rgO p rule start), .val (tI rule), .val (tI start), .val odd, .val bad, .val at_, .val ill, .val to_, .val (.tup [.tup [.str ("number" : Str), odd], .tup [.str ("rule" : Str), at_], .tup [.str ("start" : Str), to_], .tup [.str ("start" : Str), to_], .tup [.str ("rule" : Str), .int 10], .tup [.str ("start" : Str), .non]]), s13, s14, s15, s16, s17, s18] S = .nx [.val (.ref n), .val (.int p), s2, .val (parts p rule start), .val (rgO p rule start), .val (tI rule), .val (tI start), .val odd, .val bad, .val at_, .val ill, .val to_, .val (.tup [.tup [.str ("number" : Str), odd], .tup [.str ("rule" : Str), at_], .tup [.str ("start" : Str), to_], .tup [.str ("start" : Str), to_], .tup [.str ("rule" : Str), .int 10], .tup [.str ("start" : Str), .non]]), s13, s14, s15, s16, s17, s18] S := by
  have a1 := K.o2 4
  have a2 := ix_sm K.r3 5
  have a3 := ix_sm hx 5
  have sa : ∀ S : Sto, f_L_same 8 [.tup [.tup [.str ("number" : Str), odd], .tup [.str ("rule" : Str), at_], .tup [.str ("start" : Str), to_], .tup [.str ("start" : Str), to_], .tup [.str ("rule" : Str), .int 10], .tup [.str ("start" : Str), .non]], .tup [.tup [.str ("number" : Str), odd], .tup [.str ("rule" : Str), at_], .tup [.str ("start" : Str), to_], .tup [.str ("start" : Str), to_], .tup [.str ("rule" : Str), .int 10], .tup [.str ("start" : Str), .non]]] S = .ok (.bl true) S := fun S => same_sm (by simp at a1 a2 a3; simp [a1, a2, a3])
  unfold q10
  simp [sa]
theorem q11_ok (R : Rg p rule start) (hb : Bw n S) : ∃ none far S', q11 [.val (.ref n), .val (.int p), s2, .val (parts p rule start), .val (rgO p rule start), .val (tI rule), .val (tI start), .val odd, .val bad, .val at_, .val ill, .val to_, .val (.tup [.tup [.str ("number" : Str), odd], .tup [.str ("rule" : Str), at_], .tup [.str ("start" : Str), to_], .tup [.str ("start" : Str), to_], .tup [.str ("rule" : Str), .int 10], .tup [.str ("start" : Str), .non]]), s13, s14, s15, s16, s17, s18] S = .nx [.val (.ref n), .val (.int p), s2, .val (parts p rule start), .val (rgO p rule start), .val (tI rule), .val (tI start), .val odd, .val bad, .val at_, .val ill, .val to_, .val (.tup [.tup [.str ("number" : Str), odd], .tup [.str ("rule" : Str), at_], .tup [.str ("start" : Str), to_], .tup [.str ("start" : Str), to_], .tup [.str ("rule" : Str), .int 10], .tup [.str ("start" : Str), .non]]), .val none, .val far, s15, s16, s17, s18] S' ∧ Bw n S' ∧ none ∈ noneL p rule start ∧ far ∈ farL := by
  obtain ⟨none, S1, e1, b1, h1⟩ := of_tup (n := n) (S := S) (ds := noneL p rule start) (by simp [noneL]) (by simp [noneL]) hb
  obtain ⟨far, S2, e2, b2, h2⟩ := of_tup (n := n) (S := S1) (ds := farL) (by simp [farL]) (by simp [farL]) b1
  refine ⟨none, far, S2, ?_, b2, h1, h2⟩
  have p18 : ∀ S : Sto, dPow S (.int 10) (.int 18) = some (.int 1000000000000000000) := fun _ => rfl
  unfold noneL at e1
  unfold farL at e2
  unfold q11
  simp [e1, e2, p18]
theorem q12_ok (R : Rg p rule start) (h1 : none ∈ noneL p rule start) (h2 : far ∈ farL) : ∃ t12 t15 t16, q12 [.val (.ref n), .val (.int p), s2, .val (parts p rule start), .val (rgO p rule start), .val (tI rule), .val (tI start), .val odd, .val bad, .val at_, .val ill, .val to_, .val (.tup [.tup [.str ("number" : Str), odd], .tup [.str ("rule" : Str), at_], .tup [.str ("start" : Str), to_], .tup [.str ("start" : Str), to_], .tup [.str ("rule" : Str), .int 10], .tup [.str ("start" : Str), .non]]), .val none, .val far, s15, s16, s17, s18] S = .nx [.val (.ref n), .val (.int p), s2, .val (parts p rule start), .val (rgO p rule start), .val (tI rule), .val (tI start), .val odd, .val bad, .val at_, .val ill, .val to_, t12, .val none, .val far, t15, t16, s17, s18] S := by
  obtain ⟨⟨t, ht⟩, hn⟩ := none_ok R none h1
  have hf := (far_ok far h2).2.2
  obtain ⟨bC, hC⟩ : ∃ bC, bC = mSeq (mSet 12 (mTup (mCons (mLamC 0 [] (mCallV 15 2 0 [0, 1] (tabF [(("row_of" : Str), 2, f_row_of), (("value_at" : Str), 2, f_value_at), (("state_at" : Str), 2, f_state_at)]) (mCons (mVar 13) (mCons (mVar 16) (mNil))) (mNil)) f_L_kept_v3 (mNil)) (mNil)))) (mSeq (mSet 12 (mOp dAdd (mVar 12) (mTup (mCons (mLamC 0 [] (mCallV 15 2 0 [0, 1] (tabF [(("row_of" : Str), 2, f_row_of), (("value_at" : Str), 2, f_value_at), (("state_at" : Str), 2, f_state_at)]) (mCons (mVar 4) (mCons (mVar 16) (mNil))) (mNil)) f_L_kept_v3 (mNil)) (mNil))))) (mSeq (mSet 12 (mOp dAdd (mVar 12) (mTup (mCons (mLamC 0 [] (mCallV 15 2 0 [0, 1] (tabF [(("row_of" : Str), 2, f_row_of), (("value_at" : Str), 2, f_value_at), (("state_at" : Str), 2, f_state_at)]) (mCons (mVar 4) (mCons (mC .non) (mNil))) (mNil)) f_L_kept_v3 (mNil)) (mNil))))) (mIfS (mNotT (mTest (mCall 2 0 [0, 1] 2 (f_L_same 8) (mCons (mVar 12) (mCons (mTup (mCons (mTup (mCons (mC (.str ("notaregister" : Str))) (mCons (mVar 13) (mNil)))) (mCons (mTup (mCons (mC (.str ("number" : Str))) (mCons (mVar 16) (mNil)))) (mCons (mTup (mCons (mC (.str ("number" : Str))) (mCons (mC .non) (mNil)))) (mNil))))) (mNil))) (mNil)))) (mRet (mC (.bl false))) (mNext)))) := ⟨_, rfl⟩
  have c1 := fun (s12 s15 s16 : Slot) (S : Sto) => call3 (S := S) (s0 := .val (.ref n)) (s1 := .val (.int p)) (s2 := s2) (s3 := .val (parts p rule start)) (s5 := .val (tI rule)) (s6 := .val (tI start)) (s7 := .val odd) (s8 := .val bad) (s9 := .val at_) (s10 := .val ill) (s11 := .val to_) (s12 := s12) (s14 := .val far) (s15 := s15) (s16 := s16) (s17 := s17) (s18 := s18) t3_row (cl_row (p := p) (rule := rule) (start := start)) ht hn (fun k => by simp)
  have c2 := fun (s12 s15 s16 : Slot) (S : Sto) => call3 (S := S) (s0 := .val (.ref n)) (s1 := .val (.int p)) (s2 := s2) (s3 := .val (parts p rule start)) (s5 := .val (tI rule)) (s6 := .val (tI start)) (s7 := .val odd) (s8 := .val bad) (s9 := .val at_) (s10 := .val ill) (s11 := .val to_) (s12 := s12) (s14 := .val far) (s15 := s15) (s16 := s16) (s17 := s17) (s18 := s18) t3_value (cl_value (p := p) (rule := rule) (start := start) h2) ht hn hf
  have c3 := fun (s12 s15 s16 : Slot) (S : Sto) => call3 (S := S) (s0 := .val (.ref n)) (s1 := .val (.int p)) (s2 := s2) (s3 := .val (parts p rule start)) (s5 := .val (tI rule)) (s6 := .val (tI start)) (s7 := .val odd) (s8 := .val bad) (s9 := .val at_) (s10 := .val ill) (s11 := .val to_) (s12 := s12) (s14 := .val far) (s15 := s15) (s16 := s16) (s17 := s17) (s18 := s18) t3_state (cl_state (p := p) (rule := rule) (start := start) h2) ht hn hf
  unfold q12
  rw [← hC] at c1 c2 c3 ⊢
  obtain ⟨u1, e1⟩ := c1 (.val (.tup [.tup [.str ("number" : Str), odd], .tup [.str ("rule" : Str), at_], .tup [.str ("start" : Str), to_], .tup [.str ("start" : Str), to_], .tup [.str ("rule" : Str), .int 10], .tup [.str ("start" : Str), .non]])) s15 s16 S
  obtain ⟨u2, e2⟩ := c2 u1 (.val (.glo ("row_of" : Str))) (.val (.int 61)) S
  obtain ⟨u3, e3⟩ := c3 u2 (.val (.glo ("value_at" : Str))) (.val far) S
  generalize hb : mBody (mgTup 2 (mgCons (mgName 15) (mgCons (mgName 16) (mgNil)))) bC = bb at e1 e2 e3
  refine ⟨u3, .val (.glo ("state_at" : Str)), .val far, ?_⟩
  simp [hb, loopS, e1, e2, e3]
theorem bT_ok (R : Rg p rule start) (hb : Bw n S) : ∃ S' t4 t5 t6 t7 t8 t9 t10 t11 t12 t13 t14 t15 t16, bT [.val (.ref n), .val (.int p), s2, .val (parts p rule start), s4, s5, s6, s7, s8, s9, s10, s11, s12, s13, s14, s15, s16, s17, s18] S = .nx [.val (.ref n), .val (.int p), s2, .val (parts p rule start), t4, t5, t6, t7, t8, t9, t10, t11, t12, t13, t14, t15, t16, s17, s18] S' ∧ Bw n S' := by
  unfold bT
  rw [seq_nx (q1_ok R)]
  obtain ⟨odd, bad, at_, ill, to2, S2, e2, b2, K⟩ := q2_ok (S := S) (s2 := s2) (s7 := s7) (s8 := s8) (s9 := s9) (s10 := s10) (s11 := s11) (s12 := s12) (s13 := s13) (s14 := s14) (s15 := s15) (s16 := s16) (s17 := s17) (s18 := s18) R hb
  rw [seq_nx e2]
  obtain ⟨to_, e3, hx, hs⟩ := q3_ok (S := S2) (n := n) (s2 := s2) (s12 := s12) (s13 := s13) (s14 := s14) (s15 := s15) (s16 := s16) (s17 := s17) (s18 := s18) K
  rw [seq_nx e3, seq_nx (q4_ok R K hs), seq_nx (q5_ok R K hs), seq_nx (q6_ok R K hs), seq_nx (q7_ok R K hs), seq_nx (q8_ok R K hs), seq_nx (q9_ok R K hs), seq_nx (q10_ok K hx)]
  obtain ⟨none, far, S4, e4, b4, h1, h2⟩ := q11_ok (odd := odd) (bad := bad) (at_ := at_) (ill := ill) (to_ := to_) (s2 := s2) (s13 := s13) (s14 := s14) (s15 := s15) (s16 := s16) (s17 := s17) (s18 := s18) R (bw_app (l := [.ins ("Register" : Str) []]) (bw_app (l := [.ins ("Register" : Str) []]) (bw_app (l := [.ins ("Register" : Str) []]) (bw_app (l := [.ins ("Register" : Str) []]) (bw_app (l := [.ins ("Register" : Str) []]) (bw_app (l := [.ins ("Register" : Str) []]) b2))))))
  rw [seq_nx e4]
  obtain ⟨t12, t15, t16, e5⟩ := q12_ok (S := S4) (n := n) (odd := odd) (bad := bad) (at_ := at_) (ill := ill) (to_ := to_) (s2 := s2) (s15 := s15) (s16 := s16) (s17 := s17) (s18 := s18) R h1 h2
  exact ⟨S4, _, _, _, _, _, _, _, _, t12, _, _, t15, t16, e5, b4⟩
end
end SR
set_option Elab.async false
set_option linter.all false
set_option maxRecDepth 100000
set_option maxHeartbeats 8000000
/-! K03P4: right, the law -/
namespace SR
open PySem PySem.Spec PyProof.Rows L2 DL LamX PP
section
variable {S : Sto} {p : Int} {n : Nat} {e : En} {a b rule start : List Int} {i j k : Nat} {r : List Int} {d x : D}
variable {s0 s1 s2 s3 s4 s5 s6 s7 s8 s9 s10 s11 s12 s13 s14 s15 s16 s17 s18 : Slot}
theorem bB_ok (h : Pm p) (hb : Bw n S) : ∃ S' t2 t3 t4 t5 t6 t7 t8 t9 t10 t11 t12 t13 t14 t15 t16 t17 t18, bB [.val (.ref n), .val (.int p), s2, s3, s4, s5, s6, s7, s8, s9, s10, s11, s12, s13, s14, s15, s16, s17, s18] S = .nx [.val (.ref n), .val (.int p), t2, t3, t4, t5, t6, t7, t8, t9, t10, t11, t12, t13, t14, t15, t16, t17, t18] S' ∧ Bw n S' := by
  obtain ⟨S1, ru1, st1, e1, b1, R1⟩ := lap_ok (S := S) (x := .int 0) (s2 := s2) (s3 := s3) (s4 := s4) (s5 := s5) (s6 := s6) (s7 := s7) (s8 := s8) (s9 := s9) (s10 := s10) (s11 := s11) (s12 := s12) (s13 := s13) (s14 := s14) (s15 := s15) (s16 := s16) (s17 := s17) (s18 := s18) h hb
  obtain ⟨S2, ru2, st2, e2, b2, R2⟩ := lap_ok (S := S1) (x := .int 1) (s2 := .val (.int 0)) (s3 := .val (parts p ru1 st1)) (s4 := s4) (s5 := s5) (s6 := s6) (s7 := s7) (s8 := s8) (s9 := s9) (s10 := s10) (s11 := s11) (s12 := s12) (s13 := s13) (s14 := s14) (s15 := s15) (s16 := s16) (s17 := s17) (s18 := s18) h b1
  obtain ⟨S3, ru3, st3, e3, b3, R3⟩ := lap_ok (S := S2) (x := .int 2) (s2 := .val (.int 1)) (s3 := .val (parts p ru2 st2)) (s4 := s4) (s5 := s5) (s6 := s6) (s7 := s7) (s8 := s8) (s9 := s9) (s10 := s10) (s11 := s11) (s12 := s12) (s13 := s13) (s14 := s14) (s15 := s15) (s16 := s16) (s17 := s17) (s18 := s18) h b2
  have r3 : ∀ S : Sto, rng1 S [.int 3] = some [.int 0, .int 1, .int 2] := fun S => rfl
  have hf : mFor (mRng1 (mCons (mC (.int 3)) (mNil))) (mgName 2) b0 [.val (.ref n), .val (.int p), s2, s3, s4, s5, s6, s7, s8, s9, s10, s11, s12, s13, s14, s15, s16, s17, s18] S = .nx [.val (.ref n), .val (.int p), .val (.int 2), .val (parts p ru3 st3), s4, s5, s6, s7, s8, s9, s10, s11, s12, s13, s14, s15, s16, s17, s18] S3 := by
    generalize hbb : mBody (mgName 2) b0 = bb at e1 e2 e3
    simp [r3, hbb, loopS, e1, e2, e3]
  unfold bB
  rw [seq_nx hf]
  obtain ⟨S4, t4, t5, t6, t7, t8, t9, t10, t11, t12, t13, t14, t15, t16, e4, b4⟩ := bT_ok (S := S3) (n := n) (s2 := .val (.int 2)) (s4 := s4) (s5 := s5) (s6 := s6) (s7 := s7) (s8 := s8) (s9 := s9) (s10 := s10) (s11 := s11) (s12 := s12) (s13 := s13) (s14 := s14) (s15 := s15) (s16 := s16) (s17 := s17) (s18 := s18) R3 b3
  exact ⟨S4, _, _, _, _, _, _, _, _, _, _, _, _, _, _, _, _, _, e4, b4⟩
theorem rg_fib : Rg 5 [1, 1] [0, 1] := ⟨by omega, by decide, by decide, rfl, by decide⟩
theorem rg_seven : Rg 2 [1, 1, 0] [0, 0, 1] := ⟨by omega, by decide, by decide, rfl, by decide⟩
theorem rg_none : Rg 3 [] [] := ⟨by omega, by decide, by decide, rfl, by decide⟩
theorem end_ok : mSeq q13 q14 [s0, s1, s2, s3, s4, s5, s6, s7, s8, s9, s10, s11, s12, s13, s14, s15, s16, s17, s18] S = .rt (.bl true) S := by
  obtain ⟨fib, hfib⟩ : ∃ d, d = rgO 5 [1, 1] [0, 1] := ⟨_, rfl⟩
  obtain ⟨sev, hsev⟩ : ∃ d, d = rgO 2 [1, 1, 0] [0, 0, 1] := ⟨_, rfl⟩
  obtain ⟨non, hnon⟩ : ∃ d, d = rgO 3 [] [] := ⟨_, rfl⟩
  have m1 : ∀ S, finObj S (f_Register___init__ [.ref S.length, .int 5, .tup [.int 1, .int 1], .tup [.int 0, .int 1]] (S ++ [.ins ("Register" : Str) []])) = .ok fib S := fun S => by rw [hfib]; exact mk_ok rg_fib
  have m2 : ∀ S, finObj S (f_Register___init__ [.ref S.length, .int 2, .tup [.int 1, .int 1, .int 0], .tup [.int 0, .int 0, .int 1]] (S ++ [.ins ("Register" : Str) []])) = .ok sev S := fun S => by rw [hsev]; exact mk_ok rg_seven
  have m3 : ∀ S, finObj S (f_Register___init__ [.ref S.length, .int 3, .tup [], .tup []] (S ++ [.ins ("Register" : Str) []])) = .ok non S := fun S => by rw [hnon]; exact mk_ok rg_none
  have c1 : sqs 5 [1, 1] [0, 1] 0 10 = [0, 1, 1, 2, 3, 0, 3, 3, 1, 4] := by decide +kernel
  have c2 : sqs 2 [1, 1, 0] [0, 0, 1] 0 10 = [0, 0, 1, 0, 1, 1, 1, 0, 0, 1] := by decide +kernel
  have c3 : sqs 5 [1, 1] [0, 1] 4 2 = [3, 0] := by decide +kernel
  have c4 : sq 3 [] [] 5 = 0 := by decide +kernel
  have f1 : ∀ S, f_row_of [fib, .int 10] S = .ok (.tup [.int 0, .int 1, .int 1, .int 2, .int 3, .int 0, .int 3, .int 3, .int 1, .int 4]) S := fun S => by
    have := row_of_ok (S := S) (many := 10) rg_fib (by omega)
    rw [c1] at this
    rw [hfib]
    exact this
  have f2 : ∀ S, f_row_of [sev, .int 10] S = .ok (.tup [.int 0, .int 0, .int 1, .int 0, .int 1, .int 1, .int 1, .int 0, .int 0, .int 1]) S := fun S => by
    have := row_of_ok (S := S) (many := 10) rg_seven (by omega)
    rw [c2] at this
    rw [hsev]
    exact this
  have f3 : ∀ S, f_state_at [fib, .int 4] S = .ok (.tup [.int 3, .int 0]) S := fun S => by
    have : f_state_at [rgO 5 [1, 1] [0, 1], .int 4] S = .ok (tI (sqs 5 [1, 1] [0, 1] 4 2)) S := state_at_ok (S := S) (k := 4) rg_fib (by omega)
    rw [c3] at this
    rw [hfib]
    exact this
  have f4 : ∀ S, f_value_at [non, .int 5] S = .ok (.int 0) S := fun S => by
    have : f_value_at [rgO 3 [] [], .int 5] S = .ok (.int (sq 3 [] [] 5)) S := value_at_ok (S := S) (k := 5) rg_none (by omega)
    rw [c4] at this
    rw [hnon]
    exact this
  have sa : ∀ S : Sto, f_L_same 8 [.tup [.tup [.int 0, .int 1, .int 1, .int 2, .int 3, .int 0, .int 3, .int 3, .int 1, .int 4], .tup [.int 0, .int 0, .int 1, .int 0, .int 1, .int 1, .int 1, .int 0, .int 0, .int 1], .tup [.int 3, .int 0], .int 0], .tup [.tup [.int 0, .int 1, .int 1, .int 2, .int 3, .int 0, .int 3, .int 3, .int 1, .int 4], .tup [.int 0, .int 0, .int 1, .int 0, .int 1, .int 1, .int 1, .int 0, .int 0, .int 1], .tup [.int 3, .int 0], .int 0]] S = .ok (.bl true) S := fun S => same_sm (by simp)
  unfold q13 q14
  simp [m1, m2, m3, f1, f2, f3, f4, sa]
theorem right03 (n : Nat) (S : Sto) (hb : Bw n S) : Gen n (f_L_right_v4 [.ref n] S) (· = .bl true) := by
  show Gen n (runF 19 (mSeq (mFor (mItems (mTup (mCons (mC (.int 2)) (mCons (mC (.int 3)) (mCons (mC (.int 5)) (mCons (mC (.int 7)) (mNil))))))) (mgName 1) bB) (mSeq q13 q14)) [.ref n] S) _
  simp [-ev_seq]
  rw [ev_seq]
  simp [-ev_seq]
  generalize hr : loopS _ _ _ _ = r
  obtain ⟨e', S1, rfl, s1, s2, s3, s4, s5, s6, s7, s8, s9, s10, s11, s12, s13, s14, s15, s16, s17, s18, rfl, b1⟩ := loop_ofS hr (fun k e S => ∃ (s1 s2 s3 s4 s5 s6 s7 s8 s9 s10 s11 s12 s13 s14 s15 s16 s17 s18 : Slot), e = [.val (.ref n), s1, s2, s3, s4, s5, s6, s7, s8, s9, s10, s11, s12, s13, s14, s15, s16, s17, s18] ∧ Bw n S)
    ⟨.hid, .hid, .hid, .hid, .hid, .hid, .hid, .hid, .hid, .hid, .hid, .hid, .hid, .hid, .hid, .hid, .hid, .hid, rfl, hb⟩ (fun k x hx e S ⟨s1, s2, s3, s4, s5, s6, s7, s8, s9, s10, s11, s12, s13, s14, s15, s16, s17, s18, he, hb⟩ r hr => by
      subst he
      obtain ⟨p, rfl, h⟩ : ∃ p, x = .int p ∧ Pm p := by
        match k, hx with
        | 0, hx => simp at hx; exact ⟨2, hx.symm, by omega⟩
        | 1, hx => simp at hx; exact ⟨3, hx.symm, by omega⟩
        | 2, hx => simp at hx; exact ⟨5, hx.symm, by omega⟩
        | 3, hx => simp at hx; exact ⟨7, hx.symm, by omega⟩
      obtain ⟨S2, t2, t3, t4, t5, t6, t7, t8, t9, t10, t11, t12, t13, t14, t15, t16, t17, t18, e2, b2⟩ := bB_ok (S := S) (p := p) (s2 := s2) (s3 := s3) (s4 := s4) (s5 := s5) (s6 := s6) (s7 := s7) (s8 := s8) (s9 := s9) (s10 := s10) (s11 := s11) (s12 := s12) (s13 := s13) (s14 := s14) (s15 := s15) (s16 := s16) (s17 := s17) (s18 := s18) h hb
      simp [e2] at hr
      exact ⟨_, _, hr.symm, _, _, _, _, _, _, _, _, _, _, _, _, _, _, _, _, _, _, rfl, b2⟩)
  simp only [end_ok]
  exact Gen.ok b1 rfl
end
theorem law03 (ns : List Int) : ∃ S', f_law_v4 [.scr ns] [] = .ok (.bl true) S' := law_bowl (R := f_L_right_v4) right03 ns
end SR
set_option Elab.async false
set_option linter.all false
set_option maxRecDepth 100000
set_option maxHeartbeats 0
namespace K03
open PySem PySem.Spec PyProof.Rows L2 DL LamX DW SR
abbrev FdLaw (K : PySem.W.Frag) (f : Addr) (fd : FuncData) : Prop := FunD K ("law" : Str) ("law" : Str) (defArgs S_law) (defBody S_law) (defScope S_law) [] [] f fd
section
variable {w : World} {K : PySem.W.Frag} {h base : Heap} {mg : Str → Option Value} {f : Addr} {fd : FuncData}
theorem law_fd (X : K.In h) (G : h.Ns mainGlobals mg) (c : SaysZ faL fnL tfL mkL exB w h K) : ∃ fd, FdLaw K (He.fAd K dd_law.at_) fd ∧ mg ("law" : Str) = some (.ref (He.fAd K dd_law.at_)) := by
  obtain ⟨fd, F⟩ := c.defs (d := dd_law) (List.mem_of_getElem? (i := 52) rfl)
  exact ⟨fd, F, (He.glo_ok X G (c.fact (List.mem_of_getElem? (i := 50) rfl)))⟩
theorem law_binds (F : FdLaw K f fd) (s : Shared) (v : Value) : BindsTo s fd ⟨[v], []⟩ [(("script" : Str), v)] :=
  FunD.bindsA (ps := [("script" : Str)]) F (fun _ _ _ _ _ _ us hl => match us, hl with | [_], _ => rfl) s [v] rfl
theorem fd_one {fd2 : FuncData} (F : FdLaw K f fd) (F2 : FdLaw K f fd2) : fd = fd2 := by
  obtain ⟨oc, od, dV, kV, doc, pm, an, cdv, ct, osl, e1, lk, _⟩ := F.ex
  obtain ⟨oc2, od2, dV2, kV2, doc2, pm2, an2, cdv2, ct2, osl2, e2, lk2, _⟩ := F2.ex
  subst e1
  subst e2
  rw [lk] at lk2
  have := congrArg Obj.data (Option.some.inj lk2)
  exact Data.func.inj this
theorem law_fn (X : K.In h) (G : h.Ns mainGlobals mg) (c : SaysZ faL fnL tfL mkL exB w h K) (e : mg ("law" : Str) = some (.ref f)) (F : FdLaw K f fd) (TB : ∀ p ∈ tfL.map (He.cT K), TabB base mg p.1 p.2) :
    FnOk PySem.Challenge.pw_shiftrows_k03_registers_their_parts_and w K mg base (L2.CX PySem.Challenge.pw_shiftrows_k03_registers_their_parts_and w) 15 f fd [("script" : Str)] (spOf ⟨K, mg, TT K⟩ 1 SR.f_law_v4) := by
  obtain ⟨f2, fd2, F2, O, hm⟩ := (ok_law (fx_of X G c TB)).ex
  rw [e] at hm
  cases hm
  rw [fd_one F F2]
  exact O
theorem law_tabs {H : Hp} (hT : ∀ p ∈ tfL.map (He.cT K), H p.2 = some (.tbl #[])) : Tabs (TT K) H := by
  intro p hp
  unfold TT at hp
  simp only [List.mem_cons, List.not_mem_nil, or_false] at hp
  rcases hp with rfl | rfl | rfl
  · exact TabS.nil (hT _ (List.mem_map.mpr ⟨_, List.mem_of_getElem? (i := 0) rfl, rfl⟩))
  · exact TabS.nil (hT _ (List.mem_map.mpr ⟨_, List.mem_of_getElem? (i := 1) rfl, rfl⟩))
  · exact TabS.nil (hT _ (List.mem_map.mpr ⟨_, List.mem_of_getElem? (i := 2) rfl, rfl⟩))
end
end K03
namespace PySem.Challenge
open PySem PySem.W PySem.Calls PyProof.Rows
theorem K03_end (LW : ∀ ns : List Int, ns.length ≤ 63 → (∀ z ∈ ns, Builtin.Int.intBits z ≤ 1048576) → ∃ S', SR.f_law_v4 [.scr ns] [] = .ok (.bl true) S') : rw_shiftrows_k03_registers_their_parts_and.Holds := by
  w_on; o_law
  refine HandSHeadRun.head_any (r := K03.R_) (q := view K03.R_.prog [73]) (H := K03.hk) (ob := K03.ob) (M := 40000) (loose := K03.loose) (d := HandSHeadRun.topDef K03.R_.prog 73) (kwd := []) K03.ob_eq
    (by kernel_rfl) (fun s => by kernel_rfl) K03.run (by kernel_rfl) (by kernel_rfl) (by kernel_rfl) (by rfl) (by first | assumption | decide +kernel) (by decide +kernel) ⟨rfl, rfl, rfl, rfl, rfl, by decide +kernel⟩ ?hw ?hc
  case hw => w_witness2
  case hc =>
    refine DW.walk_ofZ (l := rw_shiftrows_k03_registers_their_parts_and) (n := 63) (k := 15) (x := "script") (CX := fun w => L2.CX pw_shiftrows_k03_registers_their_parts_and w) rfl (by decide) (by kernel_rfl) ⟨rfl, by decide, by decide⟩ ?F (fun w H s e s' z => DW.cx_none _ w H s e s' z)
    intro w mg fa' h K KX c G hmg0
    have hmg : mg ("law" : PySem.Str) = some (.ref fa') := by
      have e : (HandSHeadRun.topDef K03.R_.prog 73).name = ("law" : PySem.Str) := by kernel_rfl
      rw [← e]
      exact hmg0
    obtain ⟨fd, Fd, e⟩ := K03.law_fd KX G c
    rw [hmg] at e
    cases e
    refine ⟨fd, DL.spOf ⟨K, mg, K03.TT K⟩ 1 SR.f_law_v4, fun s v => K03.law_binds Fd s v, fun H a ns hl hb hT hS => ?_, fun base hK hG TB => K03.law_fn KX G c hmg Fd TB⟩
    obtain ⟨S', e⟩ := LW ns hl hb
    exact DW.sp_law (fun p hp => K03.law_tabs hT p hp) hS e
end PySem.Challenge
set_option maxRecDepth 100000 in
set_option maxHeartbeats 8000000 in
theorem PySem.Challenge.cw_shiftrows_k03_registers_their_parts_and_holds : PySem.Challenge.rw_shiftrows_k03_registers_their_parts_and.Holds :=
  PySem.Challenge.K03_end fun ns hl hb => SR.law03 ns
